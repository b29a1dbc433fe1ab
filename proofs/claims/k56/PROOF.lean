import PyProof.Rows.All
import Wide.All
import OpenK.AllK
import Wide.FinOn
import PyProof.AutoSeq1
import PyProof.TupleOfGen
import HandS.ForMost
import HandS.TupAny
import HandS.Wide
import HandS.Conv
import HandS.Walk
import HandS.Flow
import HandS.IsInst
import HandS.AnyAll
import HandS.Deep
import HandS.EndTab
import HandS.JoinGen
import HandS.Nested
import HandS.Style
import HandS.TupSets
import KE.DataMinMax
import KE.GoesMore
import KE.KNestM
import PySem.Challenge.RW_sealedlink_k56_identifiers_balancers_pat
set_option Elab.async false
set_option linter.all false
set_option maxRecDepth 100000
set_option maxHeartbeats 4000000
namespace MP
open PySem
/-- a value: tuples and the frozen list (the script) stand as trees, lists by their place -/
inductive MV where
  | non | bl (b : Bool) | int (i : Int) | str (x : Str) | tup (xs : List MV) | frl (xs : List MV) | ref (n : Nat)
  deriving Inhabited
inductive MO where
  | lst (xs : List MV)
abbrev MH := List MO
mutual
/-- every place within is below n -/
def MV.lt (n : Nat) : MV → Prop
  | .ref k => k < n
  | .tup xs => ltAll n xs
  | .frl xs => ltAll n xs
  | _ => True
def ltAll (n : Nat) : List MV → Prop
  | [] => True
  | x :: xs => MV.lt n x ∧ ltAll n xs
end
def MO.lt (n : Nat) : MO → Prop
  | .lst xs => ltAll n xs
inductive BOp | add | sub | mul | mod | fdiv | pow
  deriving DecidableEq
inductive COp | lt | le | gt | ge | eq | ne | isN | notN | isin | notin
  deriving DecidableEq
inductive TyN | int | bool | str | tuple | list
  deriving DecidableEq
/-- how an iterable is made -/
inductive IK | ex | rng1 | rng2 | enum
  deriving DecidableEq
/-- built-in calls -/
inductive Bi | len | int | abs | max | min | sum | all | any | list | tuple
  deriving DecidableEq
/-- methods -/
inductive Me | append | pop
  deriving DecidableEq
inductive Tg where
  | nm (i : Nat) | tup (ts : List Tg)
inductive E where
  | var (i : Nat) | non | bl (b : Bool) | int (i : Int) | str (x : Str)
  | glob (x : Str)
  | tup (es : List E) | lst (es : List E)
  | bin (o : BOp) (a b : E) | neg (a : E)
  | cmp (o : COp) (a b : E) | chain (o1 o2 : COp) (a b c : E)
  | and (a b : E) | or (a b : E) | not (a : E)
  | ife (c a b : E)
  | idx (a i : E) | slice (a lo hi : E)
  | call (f : Str) (es : List E)
  | bi (f : Bi) (es : List E)
  | isi (a : E) (t : TyN)
  | meth (m : Me) (o : E) (es : List E)
  | comp (elt : E) (t : Tg) (k : IK) (es : List E) (cs : List E) (own : List (Str × Nat))
  | lrng (k : IK) (es : List E)
  | back (a : E) | gflt (i : Nat) (a : E) | lenset (a : E)
  | frz (e : E)
inductive S where
  | asg (t : Tg) (e : E)
  | setIx (o i e : E)
  | setSl (o : E) (lo hi : Int) (e : E)
  | aug (i : Nat) (o : BOp) (e : E)
  | ex (e : E)
  | ret (e : E)
  | retN
  | ite (c : E) (a b : List S)
  | for_ (t : Tg) (k : IK) (es : List E) (body : List S)
  | while_ (c : E) (body : List S)
  | brk | cont | pass
structure FnI where
  np : Nat
  names : List Str
  body : List S
  gen : Bool := false
  icy : Bool := false
structure Mod where
  fns : List (Str × FnI)
  cns : List (Str × MV)
abbrev Env := List (Option MV)
abbrev R := Option (MV × MH)
/-- the largest size of a sequence -/
abbrev LIM : Nat := 16777216
mutual
def toD : MV → Option PyData
  | .non => some .none
  | .bl b => some (.bool b)
  | .int i => some (.int i)
  | .str x => some (.str x)
  | .tup xs => (toDs xs).map .tuple
  | .frl xs => (toDs xs).map .list
  | .ref _ => none
def toDs : List MV → Option (List PyData)
  | [] => some []
  | x :: xs => (toD x).bind fun d => (toDs xs).map fun ds => d :: ds
end
/-- data, a list of data too -/
def toDH (h : MH) : MV → Option PyData
  | .ref p => match h[p]? with
    | some (.lst xs) => (toDs xs).map .list
    | none => none
  | m => toD m
mutual
def ofD : PyData → MV
  | .bool b => .bl b
  | .int i => .int i
  | .str x => .str x
  | .tuple xs => .tup (ofDs xs)
  | .list xs => .frl (ofDs xs)
  | _ => .non
def ofDs : List PyData → List MV
  | [] => []
  | x :: xs => ofD x :: ofDs xs
end
def eqM (h : MH) (a b : MV) : Option Bool := (toDH h a).bind fun d => (toDH h b).bind fun e => if SeqAt.shaped d = true ∧ SeqAt.shaped e = true then some (PyData.eqv d e) else none
def flatM : MV → Bool
  | .non => true | .bl _ => true | .int _ => true | .str _ => true | _ => false
def eqF : MV → MV → Bool
  | .non, .non => true
  | .bl a, .bl b => a == b
  | .bl a, .int b => (if a = true then 1 else 0) == b
  | .int a, .bl b => a == if b = true then 1 else 0
  | .int a, .int b => a == b
  | .str a, .str b => a == b
  | _, _ => false
def seqM (h : MH) : MV → Option (List MV)
  | .tup xs => some xs
  | .frl xs => some xs
  | .ref p => match h[p]? with
    | some (.lst xs) => some xs
    | none => none
  | _ => none
/-- data in a tuple of data -/
def inD (a : MV) : MV → Option Bool
  | .tup ys => (toD a).bind fun d => (toDs ys).bind fun ds => if SeqAt.shaped d = true ∧ SeqAt.shaped (.tuple ds) = true then some (ds.any fun z => PyData.eqv z d) else none
  | _ => none
def inM (h : MH) (a b : MV) : Option Bool := (seqM h b).bind fun xs => if flatM a = true ∧ xs.all flatM = true then some (xs.any fun y => eqF y a) else inD a b
def truth (h : MH) : MV → Option Bool
  | .non => some false
  | .bl b => some b
  | .int i => some (i != 0)
  | .str z => some ((z.length : Int) != 0)
  | .tup xs => some (!xs.isEmpty)
  | .frl xs => some (!xs.isEmpty)
  | .ref p => match h[p]? with
    | some (.lst xs) => some (!xs.isEmpty)
    | none => none
def cmpM (o : COp) (h : MH) (a b : MV) : Option Bool :=
  match o with
  | .lt => match a, b with | .int i, .int j => some (decide (i < j)) | _, _ => none
  | .le => match a, b with | .int i, .int j => some (decide (i ≤ j)) | _, _ => none
  | .gt => match a, b with | .int i, .int j => some (decide (j < i)) | _, _ => none
  | .ge => match a, b with | .int i, .int j => some (decide (j ≤ i)) | _, _ => none
  | .eq => eqM h a b
  | .ne => (eqM h a b).map (!·)
  | .isN => match b with | .non => some (match a with | .non => true | _ => false) | _ => none
  | .notN => match b with | .non => some (match a with | .non => false | _ => true) | _ => none
  | .isin => inM h a b
  | .notin => (inM h a b).map (!·)
def lstM (h : MH) : MV → Option (List MV)
  | .frl xs => some xs
  | .ref p => match h[p]? with
    | some (.lst xs) => some xs
    | none => none
  | _ => none
def binM (o : BOp) (h : MH) (a b : MV) : R :=
  match o with
  | .add => match a, b with
    | .int i, .int j => some (.int (i + j), h)
    | .str x, .str y => if x.length + y.length ≤ LIM then some (.str (x ++ y), h) else none
    | .tup xs, .tup ys => if xs.length + ys.length ≤ LIM then some (.tup (xs ++ ys), h) else none
    | a, b => (lstM h a).bind fun xs => (lstM h b).bind fun ys => if xs.length + ys.length ≤ LIM then some (.ref h.length, h ++ [.lst (xs ++ ys)]) else none
  | .sub => match a, b with | .int i, .int j => some (.int (i - j), h) | _, _ => none
  | .mul => match a, b with | .int i, .int j => if ((-18446744073709551616 < i ∧ i < 18446744073709551616) ∨ (-18446744073709551616 < j ∧ j < 18446744073709551616)) ∨ i.natAbs.log2 + j.natAbs.log2 < 1000000 then some (.int (i * j), h) else none | _, _ => none
  | .mod => match a, b with | .int i, .int j => if 0 < j then some (.int (i % j), h) else none | _, _ => none
  | .fdiv => match a, b with | .int i, .int j => if 0 < j ∧ j.natAbs.log2 < 9000 then some (.int (i / j), h) else none | _, _ => none
  | .pow => match a, b with | .int i, .int j => if 0 ≤ j ∧ j ≤ 1000000 ∧ i.natAbs < 18446744073709551616 then some (.int (i ^ j.toNat), h) else none | _, _ => none
def atM (h : MH) (a i : MV) : Option MV := match i with
  | .int j => match a with
    | .str z => (L2.atI z.cps.toList j).map fun c => .str ⟨#[c]⟩
    | a => (seqM h a).bind fun xs => L2.atI xs j
  | _ => none
def cutM (xs : List MV) (lo hi : Option Int) : List MV := (xs.drop (HT.sIx xs.length 0 lo)).take (HT.sIx xs.length xs.length hi - HT.sIx xs.length 0 lo)
/-- a slice's part, absent or an int -/
def partM (absent : Bool) (v : MV) : Option (Option Int) := match absent with
  | true => some none
  | false => match v with
    | .int i => some (some i)
    | _ => none
def sliceM (h : MH) (a : MV) (l u : Option Int) : R := match a with
  | .tup xs => some (.tup (cutM xs l u), h)
  | .frl xs => some (.ref h.length, h ++ [.lst (cutM xs l u)])
  | .ref p => match h[p]? with
    | some (.lst xs) => some (.ref h.length, h ++ [.lst (cutM xs l u)])
    | none => none
  | _ => none
def E.isFrz : E → Bool
  | .frz _ => true
  | _ => false
def E.isNon : E → Bool
  | .non => true
  | _ => false
def negM (x : MV × MH) : R := match x.1 with
  | .int i => some (.int (-i), x.2)
  | _ => none
def isiM (h : MH) (a : MV) (t : TyN) : Option Bool := match a, t with
  | .non, _ => some false
  | .bl _, .bool => some true
  | .bl _, .int => some true
  | .bl _, _ => some false
  | .int _, .int => some true
  | .int _, _ => some false
  | .str _, .str => some true
  | .str _, _ => some false
  | .tup _, .tuple => some true
  | .tup _, _ => some false
  | .frl _, .list => some true
  | .frl _, _ => some false
  | .ref p, t => match h[p]? with
    | some (.lst _) => some (t = .list)
    | none => none
def intsM : List MV → Option (List Int)
  | [] => some []
  | .int i :: xs => (intsM xs).map (i :: ·)
  | _ => none
def blsM : List MV → Option (List Bool)
  | [] => some []
  | .bl i :: xs => (blsM xs).map (i :: ·)
  | _ => none
/-- a greatest item -/
def maxL : List Int → Int
  | [] => 0
  | [x] => x
  | x :: y :: r => if maxL (y :: r) > x then maxL (y :: r) else x
def minL : List Int → Int
  | [] => 0
  | [x] => x
  | x :: y :: r => if minL (y :: r) < x then minL (y :: r) else x
def lenM (h : MH) : List MV → R
  | [.str x] => some (.int x.length, h)
  | [v] => (seqM h v).map fun xs => (.int xs.length, h)
  | _ => none
def intM (h : MH) : List MV → R
  | [.int i] => some (.int i, h)
  | [.bl b] => some (.int (if b = true then 1 else 0), h)
  | _ => none
def absM (h : MH) : List MV → R
  | [.int i] => some (.int (if i < 0 then -i else i), h)
  | _ => none
def maxM (h : MH) : List MV → R
  | [.int i, .int j] => some (.int (if j > i then j else i), h)
  | [v] => (lstM h v).bind fun xs => (intsM xs).bind fun ns => if ns = [] then none else some (.int (maxL ns), h)
  | _ => none
/-- the least of a list of alike data -/
def alikeB (ds : List PyData) : Bool := ds.all fun x => ds.all fun y => PySem.W.alike x y
def noneB : PyData → Bool
  | .none => true
  | _ => false
def minDM (h : MH) (xs : List MV) : R := (toDs xs).bind fun ds => match ds with
  | [] => none
  | d :: r => if alikeB (d :: r) = true ∧ (d :: r).any noneB = false ∧ PyData.depthAll (d :: r) ≤ 60 then some (ofD (PySem.W.minD d r), h) else none
def minM (h : MH) : List MV → R
  | [.int i, .int j] => some (.int (if j < i then j else i), h)
  | [v] => (lstM h v).bind fun xs => match intsM xs with
    | some ns => if ns = [] then none else some (.int (minL ns), h)
    | none => minDM h xs
  | _ => none
def sumM (h : MH) : List MV → R
  | [v] => (lstM h v).bind fun xs => (intsM xs).map fun ns => (.int ns.sum, h)
  | _ => none
def allM (h : MH) : List MV → R
  | [v] => (lstM h v).bind fun xs => (blsM xs).map fun ns => (.bl (ns.all id), h)
  | _ => none
def anyM (h : MH) : List MV → R
  | [v] => (lstM h v).bind fun xs => (blsM xs).map fun ns => (.bl (ns.any id), h)
  | _ => none
def listM (h : MH) : List MV → R
  | [v] => (seqM h v).map fun xs => (.ref h.length, h ++ [.lst xs])
  | _ => none
def tupleM (h : MH) : List MV → R
  | [v] => (seqM h v).map fun xs => (.tup xs, h)
  | _ => none
def biM (f : Bi) (h : MH) (vs : List MV) : R := match f with
  | .len => lenM h vs | .int => intM h vs | .abs => absM h vs | .max => maxM h vs | .min => minM h vs
  | .sum => sumM h vs | .all => allM h vs | .any => anyM h vs | .list => listM h vs | .tuple => tupleM h vs
def appendM (h : MH) (p : Nat) : List MV → R
  | [v] => match h[p]? with
    | some (.lst xs) => if xs.length < LIM then some (.non, h.set p (.lst (xs ++ [v]))) else none
    | none => none
  | _ => none
def popM (h : MH) (p : Nat) : List MV → R
  | [.int i] => match h[p]? with
    | some (.lst xs) => if -(2 ^ 63) ≤ i ∧ i < 2 ^ 63 then (L2.ixN xs.length i).bind fun k => (xs[k]?).map fun y => (y, h.set p (.lst (xs.eraseIdx k))) else none
    | none => none
  | [] => match h[p]? with
    | some (.lst xs) => (xs[xs.length - 1]?).map fun y => (y, h.set p (.lst xs.dropLast))
    | none => none
  | _ => none
def methM (m : Me) (h : MH) (o : MV) (vs : List MV) : R := match o with
  | .ref p => match m with
    | .append => appendM h p vs
    | .pop => popM h p vs
  | _ => none
def setM (h : MH) (o i v : MV) : Option MH := match o, i with
  | .ref p, .int j => match h[p]? with
    | some (.lst xs) => (L2.ixN xs.length j).map fun k => h.set p (.lst (xs.set k v))
    | none => none
  | _, _ => none
/-- what an iterable gives: its items, and what must stay so while it is walked -/
structure Its where
  items : List MV
  src : Option (Nat × List MV)
/-- the pairs of enumerate -/
def enumI (xs : List MV) : List MV := (List.range xs.length).map fun (i : Nat) => .tup [.int (i : Int), xs.getD i .non]
def itsM (k : IK) (h : MH) (vs : List MV) : Option Its := match k with
  | .enum => match vs with
    | [.tup xs] => some ⟨enumI xs, none⟩
    | [.frl xs] => some ⟨enumI xs, none⟩
    | _ => none
  | .ex => match vs with
    | [.tup xs] => some ⟨xs, none⟩
    | [.frl xs] => some ⟨xs, none⟩
    | [.ref p] => match h[p]? with
      | some (.lst xs) => some ⟨xs, some (p, xs)⟩
      | none => none
    | _ => none
  | .rng1 => match vs with
    | [.int n] => if n ≤ LIM ∧ -(2 ^ 62) ≤ n then some ⟨(List.range n.toNat).map fun i => .int ((i : Nat) : Int), none⟩ else none
    | _ => none
  | .rng2 => match vs with
    | [.int a, .int b] => if -(2 ^ 62) ≤ a ∧ a < 2 ^ 62 ∧ -(2 ^ 62) ≤ b ∧ b < 2 ^ 62 ∧ (b - a).toNat ≤ LIM then some ⟨(List.range (b - a).toNat).map fun i => .int (a + ((i : Nat) : Int)), none⟩ else none
    | _ => none
def Its.still (t : Its) (h : MH) : Prop := match t.src with
  | none => True
  | some (p, xs) => h[p]? = some (.lst xs)
mutual
def bindT (t : Tg) (v : MV) (env : Env) : Option Env := match t with
  | .nm i => some (env.set i (some v))
  | .tup ts => match v with
    | .tup xs => bindTs ts xs env
    | _ => none
def bindTs (ts : List Tg) (vs : List MV) (env : Env) : Option Env := match ts with
  | [] => match vs with
    | [] => some env
    | _ => none
  | t :: ts => match vs with
    | v :: vs => (bindT t v env).bind fun e => bindTs ts vs e
    | [] => none
end
def wipeM (env : Env) : List Nat → Env
  | [] => env
  | i :: is => (wipeM env is).set i none
open Classical in
noncomputable def gc (h : MH) (r : MV × MH) : MV × MH :=
  if h.length ≤ r.2.length ∧ ∀ i o, i < h.length → r.2[i]? = some o → h[i]? = some o ∨ o.lt h.length then
    if r.1.lt h.length then (r.1, r.2.take h.length)
    else match r.1 with
      | .ref p => match r.2[p]? with
        | some o => if o.lt h.length then (.ref h.length, r.2.take h.length ++ [o]) else r
        | none => r
      | _ => r
  else r
open Classical in
/-- a new list that nothing holds is held as frozen from now on; all else is let go as ever -/
noncomputable def frzM (h : MH) (r : MV × MH) : R := match r.1 with
  | .ref p => match r.2[p]? with
    | some (.lst xs) => if h.length ≤ p ∧ h.length ≤ r.2.length ∧ (∀ i o, i < h.length → r.2[i]? = some o → h[i]? = some o ∨ o.lt h.length) ∧ ltAll h.length xs then some (.frl xs, r.2.take h.length) else none
    | none => none
  | _ => some (gc h r)
/-- what is walked, with what its making needed let go -/
noncomputable def itsG (k : IK) (h : MH) (r : List MV × MH) : Option (Its × MH) := match k with
  | .ex => match r.1 with
    | [v] => (itsM .ex (gc h (v, r.2)).2 [(gc h (v, r.2)).1]).map fun st => (st, (gc h (v, r.2)).2)
    | _ => none
  | .enum => match r.1 with
    | [v] => (itsM .enum (gc h (v, r.2)).2 [(gc h (v, r.2)).1]).map fun st => (st, (gc h (v, r.2)).2)
    | _ => none
  | .rng1 => (itsM .rng1 r.2 r.1).map fun st => (st, (gc h (.non, r.2)).2)
  | .rng2 => (itsM .rng2 r.2 r.1).map fun st => (st, (gc h (.non, r.2)).2)
def backM (x : MV × MH) : R := match x.1 with
  | .tup xs => some (.tup xs.reverse, x.2)
  | _ => none
def keyM : MV → Option Int
  | .tup (.int k :: _) => some k
  | _ => none
/-- those whose first is not the variable's value -/
def gfM (i : Nat) (env : Env) (x : MV × MH) : R := match env[i]? with
  | some (some (.int t)) => match x.1 with
    | .tup xs => if xs.all (fun y => (keyM y).isSome) = true then some (.tup (xs.filter fun y => keyM y != some t), x.2) else none
    | _ => none
  | _ => none
def lsM (x : MV × MH) : R := (lstM x.2 x.1).bind fun xs => (intsM xs).bind fun ns => if ns.Nodup ∧ ns.length < 64 then some (.int ns.length, x.2) else none
/-- a list's part is set anew -/
def setSlM (h : MH) (o v : MV) (lo hi : Int) : Option MH := match o, v with
  | .ref p, .ref q => match h[p]?, h[q]? with
    | some (.lst xs), some (.lst ys) => if p ≠ q ∧ 0 ≤ lo ∧ lo ≤ hi ∧ hi ≤ xs.length ∧ xs.length + ys.length ≤ LIM then some (h.set p (.lst (xs.take lo.toNat ++ ys ++ xs.drop hi.toNat))) else none
    | _, _ => none
  | _, _ => none
section
variable (g : Mod) (cf : Str → List MV → MH → R)
open Classical in
/-- the walk of a comprehension: items left, the list so far -/
noncomputable def compL (tgt : Tg) (st : Its) (env : Env) (tst elt : Env → MH → R) : List MV → List MV → MH → Option (List MV × MH)
  | [], acc, h => if st.still h then some (acc, h) else none
  | v :: vs, acc, h => if st.still h then (bindT tgt v env).bind fun e =>
      (tst e h).bind fun b => match b.1 with
        | .bl true => (elt e b.2).bind fun r => let r' := gc h r; compL tgt st env tst elt vs (acc ++ [r'.1]) r'.2
        | .bl false => compL tgt st env tst elt vs acc b.2
        | _ => none
    else none
mutual
noncomputable def evE (e : E) (env : Env) (h : MH) : R := match e with
  | .var i => match env[i]? with
    | some (some v) => some (v, h)
    | _ => none
  | .non => some (.non, h)
  | .bl b => some (.bl b, h)
  | .int i => some (.int i, h)
  | .str x => some (.str x, h)
  | .glob x => (g.cns.lookup x).map fun v => (v, h)
  | .tup es => (evEs es env h).bind fun r => some (.tup r.1, r.2)
  | .lst es => (evEs es env h).bind fun r => some (.ref r.2.length, r.2 ++ [.lst r.1])
  | .bin o a b => (evE a env h).bind fun x => (evE b env x.2).bind fun y => binM o y.2 x.1 y.1
  | .neg a => (evE a env h).bind negM
  | .cmp o a b => (evE a env h).bind fun x => (evE b env x.2).bind fun y => (cmpM o y.2 x.1 y.1).map fun c => (.bl c, y.2)
  | .chain o1 o2 a b c => (evE a env h).bind fun x => (evE b env x.2).bind fun y => (cmpM o1 y.2 x.1 y.1).bind fun c1 =>
      if c1 then (evE c env y.2).bind fun z => (cmpM o2 z.2 y.1 z.1).map fun c2 => (.bl c2, z.2) else some (.bl false, y.2)
  | .and a b => (evE a env h).bind fun x => (truth x.2 x.1).bind fun c => if c then evE b env x.2 else some x
  | .or a b => (evE a env h).bind fun x => (truth x.2 x.1).bind fun c => if c then some x else evE b env x.2
  | .not a => (evE a env h).bind fun x => (truth x.2 x.1).map fun c => (.bl (!c), x.2)
  | .ife c a b => (evE c env h).bind fun x => (truth x.2 x.1).bind fun c => if c then evE a env x.2 else evE b env x.2
  | .idx a i => (evE a env h).bind fun x => (evE i env x.2).bind fun y => (atM y.2 x.1 y.1).map fun v => (v, y.2)
  | .slice a lo hi => (evE a env h).bind fun x => (evE lo env x.2).bind fun l => (evE hi env l.2).bind fun u => (partM lo.isNon l.1).bind fun i => (partM hi.isNon u.1).bind fun j => sliceM u.2 x.1 i j
  | .call f es => (evEs es env h).bind fun r => cf f r.1 r.2
  | .bi f es => (evEs es env h).bind fun r => biM f r.2 r.1
  | .isi a t => (evE a env h).bind fun x => (isiM x.2 x.1 t).map fun c => (.bl c, x.2)
  | .meth m o es => (evE o env h).bind fun x => (evEs es env x.2).bind fun r => methM m r.2 x.1 r.1
  | .comp elt t k es cs own => (evEs es env h).bind fun r => (itsG k h r).bind fun st =>
      (compL t st.1 (wipeM env (own.map (·.2))) (fun e h => match cs with
        | [] => some (.bl true, h)
        | c :: _ => (evE c e h).bind fun x => (truth x.2 x.1).map fun b => gc h (.bl b, x.2)) (fun e h => evE elt e h) st.1.items [] st.2).map fun q => (.ref q.2.length, q.2 ++ [.lst q.1])
  | .frz e => (evE e env h).bind (frzM h)
  | .back a => (evE a env h).bind backM
  | .gflt i a => (evE a env h).bind (gfM i env)
  | .lenset a => (evE a env h).bind lsM
  | .lrng k es => (evEs es env h).bind fun r => match k with
    | .ex => none
    | .enum => none
    | k => (itsM k r.2 r.1).map fun st => (.ref r.2.length, r.2 ++ [.lst st.items])
noncomputable def evEs (es : List E) (env : Env) (h : MH) : Option (List MV × MH) := match es with
  | [] => some ([], h)
  | e :: es => (evE e env h).bind fun x => (evEs es env x.2).map fun r => (x.1 :: r.1, r.2)
end
end
end MP
namespace MP
open PySem
inductive Fl where
  | nx | rt (v : MV) | bk | ct
structure Out where
  fl : Fl
  env : Env
  h : MH
section
variable (g : Mod) (cf : Str → List MV → MH → R)
open Classical in
noncomputable def forL (tgt : Tg) (st : Its) (body : Env → MH → Option Out) : List MV → Env → MH → Option Out
  | [], env, h => if st.still h then some ⟨.nx, env, h⟩ else none
  | v :: vs, env, h => if st.still h then (bindT tgt v env).bind fun e =>
      (body e h).bind fun o => match o.fl with
        | .nx => forL tgt st body vs o.env o.h
        | .ct => forL tgt st body vs o.env o.h
        | .bk => some ⟨.nx, o.env, o.h⟩
        | .rt v => some o
    else none
noncomputable def whileL (tst : Env → MH → R) (body : Env → MH → Option Out) : Nat → Env → MH → Option Out
  | 0, env, h => none
  | n + 1, env, h => (tst env h).bind fun b => match b.1 with
      | .bl true => (body env b.2).bind fun o => match o.fl with
        | .nx => whileL tst body n o.env o.h
        | .ct => whileL tst body n o.env o.h
        | .bk => some ⟨.nx, o.env, o.h⟩
        | .rt v => some o
      | .bl false => some ⟨.nx, env, b.2⟩
      | _ => none
/-- a op= b of things that are not changed in their place -/
def augM (o : BOp) (h : MH) (a b : MV) : R := match o, a, b with
  | .add, .int i, .int j => some (.int (i + j), h)
  | .sub, .int i, .int j => some (.int (i - j), h)
  | .add, .str x, .str y => if x.length + y.length ≤ LIM then some (.str (x ++ y), h) else none
  | _, _, _ => none
/-- a test: by truth -/
noncomputable def tstE (c : E) (env : Env) (h : MH) : R := (evE g cf c env h).bind fun x => (truth x.2 x.1).map fun b => gc h (.bl b, x.2)
/-- an iterable of a for -/
noncomputable def evI (k : IK) (es : List E) (env : Env) (h : MH) : Option (Its × MH) := (evEs g cf es env h).bind fun r => itsG k h r
abbrev WLIM : Nat := 1099511627776
mutual
noncomputable def evS (s : S) (env : Env) (h : MH) : Option Out := match s with
  | .asg t e => (evE g cf e env h).bind fun x => (bindT t (gc h x).1 env).map fun env' => ⟨.nx, env', (gc h x).2⟩
  | .setIx o i e => (evE g cf e env h).bind fun x => (evE g cf o env x.2).bind fun y => (evE g cf i env y.2).bind fun z => (setM z.2 y.1 z.1 x.1).map fun h' => ⟨.nx, env, (gc h (.non, h')).2⟩
  | .setSl o lo hi e => (evE g cf e env h).bind fun x => (evE g cf o env x.2).bind fun y => (setSlM y.2 y.1 x.1 lo hi).map fun h' => ⟨.nx, env, (gc h (.non, h')).2⟩
  | .aug i o e => match env[i]? with
    | some (some v) => (evE g cf e env h).bind fun x => (augM o x.2 v x.1).map fun y => ⟨.nx, env.set i (some (gc h y).1), (gc h y).2⟩
    | _ => none
  | .ex e => (evE g cf e env h).map fun x => ⟨.nx, env, (gc h (.non, x.2)).2⟩
  | .ret e => (evE g cf e env h).map fun x => ⟨.rt (gc h x).1, env, (gc h x).2⟩
  | .retN => some ⟨.rt .non, env, h⟩
  | .ite c a b => (tstE g cf c env h).bind fun x => match x.1 with
    | .bl true => evSs a env x.2
    | .bl false => evSs b env x.2
    | _ => none
  | .for_ t k es body => (evI g cf k es env h).bind fun q => forL t q.1 (fun e h => evSs body e h) q.1.items env q.2
  | .while_ c body => whileL (fun e h => tstE g cf c e h) (fun e h => evSs body e h) WLIM env h
  | .brk => some ⟨.bk, env, h⟩
  | .cont => some ⟨.ct, env, h⟩
  | .pass => some ⟨.nx, env, h⟩
noncomputable def evSs (ss : List S) (env : Env) (h : MH) : Option Out := match ss with
  | [] => some ⟨.nx, env, h⟩
  | s :: ss => (evS s env h).bind fun o => match o.fl with
    | .nx => evSs ss o.env o.h
    | _ => some o
end
end
noncomputable def run (g : Mod) : Nat → Str → List MV → MH → R
  | 0, _, _, _ => none
  | k + 1, f, vs, h => match g.fns.lookup f with
    | none => none
    | some i => if vs.length = i.np then (evSs g (run g k) i.body (vs.map some ++ List.replicate (i.names.length - vs.length) none) h).bind fun o => match o.fl with
        | .nx => some (gc h (.non, o.h))
        | .rt v => if i.icy = true then frzM h (v, o.h) else some (gc h (v, o.h))
        | _ => none
      else none
end MP
namespace MP
open PySem PySem.Spec PyProof.Rows L2
abbrev Fra := PySem.W.Frag
def KLst (K : Fra) (a : Addr) (vs : List V) : Prop :=
  ∃ (o : Obj) (its : Array Value) (n : Nat), K.lookup a = some o ∧ o.cls = .type "list" ∧ o.dict = none ∧ o.data = .seq its n ∧ its.size ≤ sizeLine ∧ Vals vs its.toList
def FrL (K : Fra) (H : Hp) (a : Addr) (vs : List V) : Prop := ∃ o, H a = some (.frz o (.lst vs))
theorem FrL.sq {K : Fra} {H : Hp} {a : Addr} {vs : List V} (h : FrL K H a vs) : SqL K H a vs := by
  obtain ⟨o, h⟩ := h
  exact .inl (.inr ⟨o, h⟩)
mutual
def RV (K : Fra) (φ : List Addr) (H : Hp) (v : V) : MV → Prop
  | .non => v = .non
  | .bl b => v = .bl b
  | .int i => v = .int i
  | .str x => v = .str x ∧ x.length ≤ sizeLine
  | .tup xs => ∃ a vs, v = .ref a ∧ SqT K H a vs ∧ RVs K φ H vs xs ∧ xs.length ≤ sizeLine
  | .frl xs => ∃ a vs, v = .ref a ∧ FrL K H a vs ∧ RVs K φ H vs xs ∧ xs.length ≤ sizeLine
  | .ref n => ∃ a, φ[n]? = some a ∧ v = .ref a
def RVs (K : Fra) (φ : List Addr) (H : Hp) (vs : List V) : List MV → Prop
  | [] => vs = []
  | x :: xs => ∃ v r, vs = v :: r ∧ RV K φ H v x ∧ RVs K φ H r xs
end
def RO (K : Fra) (φ : List Addr) (H : Hp) (a : Addr) : MO → Prop
  | .lst xs => ∃ vs, H a = some (.lst vs) ∧ RVs K φ H vs xs ∧ xs.length ≤ sizeLine
/-- the tables that a last entry behind the facts names -/
def tabsIn (K : Fra) : List Addr := match K.getLast? with
  | some (_, o) => if o.cls = .type "MP.tables" then (match o.data with
    | .fields vs => vs.toList.filterMap fun v => match v with | .ref a => some a | _ => none
    | _ => []) else []
  | none => []
structure HR (K : Fra) (φ : List Addr) (h : MH) (H : Hp) : Prop where
  len : φ.length = h.length
  nd : φ.Nodup
  tab : ∀ P ∈ tabsIn K, GxR.TabG H P
  at_ : ∀ (i : Nat) (a : Addr) (o : MO), φ[i]? = some a → h[i]? = some o → RO K φ H a o
/-- from φ, H on to φ', H' -/
structure Stp (φ : List Addr) (H : Hp) (φ' : List Addr) (H' : Hp) : Prop where
  ext : ∃ l, φ' = φ ++ l
  keep : ∀ a o, H a = some o → a ∉ φ → (∀ ps, o ≠ HO.tbl ps) → H' a = some o
  tab : ∀ a ps, H a = some (.tbl ps) → a ∉ φ → ∃ ps', H' a = some (.tbl ps') ∧ (TriplesOk ps.toList → TriplesOk ps'.toList)
  new : ∀ a, a ∈ φ' → a ∈ φ ∨ H a = none
section
variable {K : Fra} {φ φ' φ1 φ2 : List Addr} {H H' H1 H2 : Hp} {h h' h1 h2 : MH} {v : V} {m : MV}
theorem Stp.refl : Stp φ H φ H := ⟨⟨[], (List.append_nil _).symm⟩, fun _ _ e _ _ => e, fun _ ps e _ => ⟨ps, e, id⟩, fun _ e => .inl e⟩
theorem Stp.trans (s : Stp φ H φ1 H1) (t : Stp φ1 H1 φ2 H2) : Stp φ H φ2 H2 := by
  refine ⟨?_, fun a o e n nt => ?_, fun a ps e n => ?_, fun a e => ?_⟩
  · obtain ⟨l, e⟩ := s.ext
    obtain ⟨l', e'⟩ := t.ext
    exact ⟨l ++ l', by rw [e', e, List.append_assoc]⟩
  · have e1 := s.keep a o e n nt
    refine t.keep a o e1 (fun q => ?_) nt
    rcases s.new a q with q | q
    · exact n q
    · rw [q] at e; cases e
  · obtain ⟨ps1, e1, f1⟩ := s.tab a ps e n
    obtain ⟨ps2, e2, f2⟩ := t.tab a ps1 e1 fun q => by
      rcases s.new a q with q | q
      · exact n q
      · rw [q] at e; cases e
    exact ⟨ps2, e2, fun z => f2 (f1 z)⟩
  · rcases t.new a e with q | q
    · exact s.new a q
    · by_cases ha : a ∈ φ
      · exact .inl ha
      · right
        cases hh : H a with
        | none => rfl
        | some o =>
          by_cases ht : ∃ ps, o = HO.tbl ps
          · obtain ⟨ps, rfl⟩ := ht
            obtain ⟨ps1, e1, _⟩ := s.tab a ps hh ha
            rw [e1] at q; cases q
          · rw [s.keep a o hh ha fun ps z => ht ⟨ps, z⟩] at q; cases q
theorem Stp.get (s : Stp φ H φ1 H1) {n : Nat} {a : Addr} (e : φ[n]? = some a) : φ1[n]? = some a := by
  obtain ⟨l, q⟩ := s.ext
  rw [q, List.getElem?_append_left (List.getElem?_eq_some_iff.mp e).1]
  exact e
def Dom (φ : List Addr) (H : Hp) : Prop := ∀ a ∈ φ, ∃ vs, H a = some (.lst vs)
theorem HR.dom (r : HR K φ h H) : Dom φ H := fun a ha => by
  obtain ⟨i, hi, e⟩ := List.mem_iff_getElem.mp ha
  have e1 : φ[i]? = some a := by rw [List.getElem?_eq_getElem hi, e]
  have hi' : i < h.length := by rw [← r.len]; exact hi
  have q := r.at_ i a h[i] e1 (List.getElem?_eq_getElem hi')
  cases ho : h[i] with
  | lst xs =>
    rw [ho] at q
    obtain ⟨vs, q, _⟩ := q
    exact ⟨vs, q⟩
theorem HR.tabs (r : HR K φ h H) (s : Stp φ H φ1 H1) : ∀ P ∈ tabsIn K, GxR.TabG H1 P := fun P hP => by
  obtain ⟨ps, e, t⟩ := r.tab P hP
  obtain ⟨ps1, e1, f⟩ := s.tab P ps e fun q => by
    obtain ⟨vs, e2⟩ := r.dom P q
    rw [e] at e2; cases e2
  exact ⟨ps1, e1, f t⟩
theorem Stp.tup (s : Stp φ H φ1 H1) (d : Dom φ H) {a : Addr} {vs : List V} (e : SqT K H a vs) : SqT K H1 a vs := by
  rcases e with (e | ⟨o, e⟩) | e
  · refine .inl (.inl (s.keep _ _ e (fun q => ?_) fun _ z => nomatch z))
    obtain ⟨ws, q⟩ := d a q
    rw [e] at q; cases q
  · refine .inl (.inr ⟨o, s.keep _ _ e (fun q => ?_) fun _ z => nomatch z⟩)
    obtain ⟨ws, q⟩ := d a q
    rw [e] at q; cases q
  · exact .inr e
theorem Stp.frl (s : Stp φ H φ1 H1) (d : Dom φ H) {a : Addr} {vs : List V} (e : FrL K H a vs) : FrL K H1 a vs := by
  obtain ⟨o, e⟩ := e
  refine ⟨o, s.keep _ _ e (fun q => ?_) fun _ z => nomatch z⟩
  obtain ⟨ws, q⟩ := d a q
  rw [e] at q; cases q
/-- what a value leans on stays -/
structure Wk (φ : List Addr) (H : Hp) (φ' : List Addr) (H' : Hp) : Prop where
  get : ∀ (n : Nat) (a : Addr), φ[n]? = some a → φ'[n]? = some a
  tup : ∀ a xs, H a = some (.tup xs) → H' a = some (.tup xs)
  frz : ∀ a o u, H a = some (.frz o u) → H' a = some (.frz o u)
theorem Stp.wk (s : Stp φ H φ1 H1) (d : Dom φ H) : Wk φ H φ1 H1 := by
  refine ⟨fun n a e => s.get e, fun a xs e => s.keep _ _ e (fun q => ?_) (fun _ z => nomatch z), fun a o u e => s.keep _ _ e (fun q => ?_) fun _ z => nomatch z⟩
  · obtain ⟨ws, q⟩ := d a q
    rw [e] at q; cases q
  · obtain ⟨ws, q⟩ := d a q
    rw [e] at q; cases q
theorem wk_poke {D : Addr} {vs ws : List V} (e : H D = some (.lst vs)) : Wk φ H φ (upd H D (.lst ws)) := by
  refine ⟨fun _ _ e => e, fun a xs q => ?_, fun a o u q => ?_⟩
  · rw [upd_ne (fun z => by rw [z, e] at q; cases q)]; exact q
  · rw [upd_ne (fun z => by rw [z, e] at q; cases q)]; exact q
theorem Wk.sqt (w : Wk φ H φ1 H1) {a : Addr} {vs : List V} (e : SqT K H a vs) : SqT K H1 a vs := by
  rcases e with (e | ⟨o, e⟩) | e
  · exact .inl (.inl (w.tup _ _ e))
  · exact .inl (.inr ⟨o, w.frz _ _ _ e⟩)
  · exact .inr e
theorem Wk.frl (w : Wk φ H φ1 H1) {a : Addr} {vs : List V} (e : FrL K H a vs) : FrL K H1 a vs := by
  obtain ⟨o, e⟩ := e
  exact ⟨o, w.frz _ _ _ e⟩
mutual
theorem RV.wk (w : Wk φ H φ1 H1) : ∀ (m : MV) (v : V), RV K φ H v m → RV K φ1 H1 v m
  | .non, _, e => e
  | .bl _, _, e => e
  | .int _, _, e => e
  | .str _, _, e => e
  | .tup xs, v, ⟨a, vs, e, t, r, z⟩ => ⟨a, vs, e, w.sqt t, RVs.wk w xs vs r, z⟩
  | .frl xs, v, ⟨a, vs, e, t, r, z⟩ => ⟨a, vs, e, w.frl t, RVs.wk w xs vs r, z⟩
  | .ref n, v, ⟨a, e, q⟩ => ⟨a, w.get _ _ e, q⟩
theorem RVs.wk (w : Wk φ H φ1 H1) : ∀ (m : List MV) (v : List V), RVs K φ H v m → RVs K φ1 H1 v m
  | [], _, e => e
  | x :: xs, vs, ⟨v, r, e, h1, h2⟩ => ⟨v, r, e, RV.wk w x v h1, RVs.wk w xs r h2⟩
end
theorem RV.mono (s : Stp φ H φ1 H1) (d : Dom φ H) (m : MV) (v : V) (r : RV K φ H v m) : RV K φ1 H1 v m := RV.wk (s.wk d) m v r
theorem RVs.mono (s : Stp φ H φ1 H1) (d : Dom φ H) (m : List MV) (v : List V) (r : RVs K φ H v m) : RVs K φ1 H1 v m := RVs.wk (s.wk d) m v r
mutual
/-- what names no place beyond the first n hangs on these alone -/
theorem RV.cut {l : List Addr} : ∀ (m : MV) (v : V), m.lt φ.length → RV K (φ ++ l) H v m → RV K φ H v m
  | .non, _, _, e => e
  | .bl _, _, _, e => e
  | .int _, _, _, e => e
  | .str _, _, _, e => e
  | .tup xs, v, b, ⟨a, vs, e, t, r, z⟩ => ⟨a, vs, e, t, RVs.cut xs vs b r, z⟩
  | .frl xs, v, b, ⟨a, vs, e, t, r, z⟩ => ⟨a, vs, e, t, RVs.cut xs vs b r, z⟩
  | .ref n, v, b, ⟨a, e, q⟩ => ⟨a, by rw [List.getElem?_append_left (show n < φ.length from b)] at e; exact e, q⟩
theorem RVs.cut {l : List Addr} : ∀ (m : List MV) (v : List V), ltAll φ.length m → RVs K (φ ++ l) H v m → RVs K φ H v m
  | [], _, _, e => e
  | x :: xs, vs, b, ⟨v, r, e, h1, h2⟩ => ⟨v, r, e, RV.cut x v b.1 h1, RVs.cut xs r b.2 h2⟩
end
mutual
theorem RV.ext {l : List Addr} : ∀ (m : MV) (v : V), RV K φ H v m → RV K (φ ++ l) H v m
  | .non, _, e => e
  | .bl _, _, e => e
  | .int _, _, e => e
  | .str _, _, e => e
  | .tup xs, v, ⟨a, vs, e, t, r, z⟩ => ⟨a, vs, e, t, RVs.ext xs vs r, z⟩
  | .frl xs, v, ⟨a, vs, e, t, r, z⟩ => ⟨a, vs, e, t, RVs.ext xs vs r, z⟩
  | .ref n, v, ⟨a, e, q⟩ => ⟨a, by rw [List.getElem?_append_left (List.getElem?_eq_some_iff.mp e).1]; exact e, q⟩
theorem RVs.ext {l : List Addr} : ∀ (m : List MV) (v : List V), RVs K φ H v m → RVs K (φ ++ l) H v m
  | [], _, e => e
  | x :: xs, vs, ⟨v, r, e, h1, h2⟩ => ⟨v, r, e, RV.ext x v h1, RVs.ext xs r h2⟩
end
mutual
theorem RV.low : ∀ (m : MV) (v : V), RV K φ H v m → m.lt φ.length
  | .non, _, _ => True.intro
  | .bl _, _, _ => True.intro
  | .int _, _, _ => True.intro
  | .str _, _, _ => True.intro
  | .tup xs, v, ⟨a, vs, e, t, r, z⟩ => RVs.low xs vs r
  | .frl xs, v, ⟨a, vs, e, t, r, z⟩ => RVs.low xs vs r
  | .ref n, v, ⟨a, e, q⟩ => (List.getElem?_eq_some_iff.mp e).1
theorem RVs.low : ∀ (m : List MV) (v : List V), RVs K φ H v m → ltAll φ.length m
  | [], _, _ => True.intro
  | x :: xs, vs, ⟨v, r, e, h1, h2⟩ => ⟨RV.low x v h1, RVs.low xs r h2⟩
end
theorem RVs.len : ∀ {m : List MV} {vs : List V}, RVs K φ H vs m → vs.length = m.length
  | [], _, e => by cases e; rfl
  | x :: xs, vs, ⟨v, r, e, h1, h2⟩ => by subst e; exact congrArg (· + 1) (RVs.len h2)
theorem RVs.get : ∀ {m : List MV} {vs : List V} {i : Nat} {x : MV}, RVs K φ H vs m → m[i]? = some x → ∃ v, vs[i]? = some v ∧ RV K φ H v x
  | [], _, _, _, _, q => by simp at q
  | x :: xs, _, 0, y, ⟨v, r, e, h1, h2⟩, q => by
    simp at q; subst q; subst e
    exact ⟨v, rfl, h1⟩
  | x :: xs, _, i + 1, y, ⟨v, r, e, h1, h2⟩, q => by
    subst e
    obtain ⟨u, p, t⟩ := RVs.get h2 (by simpa using q)
    exact ⟨u, by simpa using p, t⟩
theorem RVs.get' {m : List MV} {vs : List V} {i : Nat} {v : V} (r : RVs K φ H vs m) (e : vs[i]? = some v) : ∃ x, m[i]? = some x ∧ RV K φ H v x := by
  have hi : i < m.length := by rw [← r.len]; exact (List.getElem?_eq_some_iff.mp e).1
  obtain ⟨u, p, t⟩ := r.get (List.getElem?_eq_getElem hi)
  rw [e] at p; cases p
  exact ⟨_, List.getElem?_eq_getElem hi, t⟩
theorem RVs.of : ∀ {m : List MV} {vs : List V}, vs.length = m.length → (∀ (i : Nat) (x : MV) (v : V), m[i]? = some x → vs[i]? = some v → RV K φ H v x) → RVs K φ H vs m
  | [], [], _, _ => rfl
  | [], _ :: _, e, _ => by simp at e
  | _ :: _, [], e, _ => by simp at e
  | x :: xs, v :: vs, e, f => ⟨v, vs, rfl, f 0 x v rfl rfl, RVs.of (by simpa using e) fun i y u h1 h2 => f (i + 1) y u (by simpa using h1) (by simpa using h2)⟩
theorem RVs.app {m m' : List MV} : ∀ {vs : List V} {ws : List V}, RVs K φ H vs m → RVs K φ H ws m' → RVs K φ H (vs ++ ws) (m ++ m') := by
  induction m with
  | nil => intro vs ws e q; cases e; exact q
  | cons x xs ih =>
    intro vs ws e q
    obtain ⟨v, r, rfl, h1, h2⟩ := e
    exact ⟨v, r ++ ws, rfl, h1, ih h2 q⟩
theorem RVs.one {x : MV} (e : RV K φ H v x) : RVs K φ H [v] [x] := ⟨v, [], rfl, e, rfl⟩
theorem RVs.take {m : List MV} {vs : List V} (n : Nat) (r : RVs K φ H vs m) : RVs K φ H (vs.take n) (m.take n) := by
  refine .of (by rw [List.length_take, List.length_take, r.len]) fun i x v h1 h2 => ?_
  have hi : i < n := by have := (List.getElem?_eq_some_iff.mp h1).1; rw [List.length_take] at this; omega
  rw [List.getElem?_take_of_lt hi] at h1 h2
  obtain ⟨u, p, t⟩ := r.get h1
  rw [p] at h2; cases h2
  exact t
theorem RVs.drop {m : List MV} {vs : List V} (n : Nat) (r : RVs K φ H vs m) : RVs K φ H (vs.drop n) (m.drop n) := by
  refine .of (by rw [List.length_drop, List.length_drop, r.len]) fun i x v h1 h2 => ?_
  rw [List.getElem?_drop] at h1 h2
  obtain ⟨u, p, t⟩ := r.get h1
  rw [p] at h2; cases h2
  exact t
theorem RVs.set {m : List MV} {vs : List V} {k : Nat} {x : MV} (r : RVs K φ H vs m) (e : RV K φ H v x) : RVs K φ H (vs.set k v) (m.set k x) := by
  refine .of (by rw [List.length_set, List.length_set, r.len]) fun i y u h1 h2 => ?_
  rw [List.getElem?_set] at h1 h2
  by_cases hk : k = i
  · subst hk
    rw [if_pos rfl] at h1 h2
    split at h1 <;> split at h2 <;> first | (cases h1; done) | (cases h2; done) | (cases h1; cases h2; exact e)
  · rw [if_neg hk] at h1 h2
    obtain ⟨w, p, t⟩ := r.get h1
    rw [p] at h2; cases h2
    exact t
theorem RVs.erase {m : List MV} {vs : List V} {k : Nat} (r : RVs K φ H vs m) : RVs K φ H (vs.eraseIdx k) (m.eraseIdx k) := by
  rw [List.eraseIdx_eq_take_drop_succ, List.eraseIdx_eq_take_drop_succ]
  exact (r.take k).app (r.drop (k + 1))
theorem HR.mono_obj (s : Stp φ H φ1 H1) (d : Dom φ H) {xs : List MV} {vs : List V} (r : RVs K φ H vs xs) : RVs K φ1 H1 vs xs := RVs.mono s d xs vs r
theorem RVs.dropLast {m : List MV} {vs : List V} (r : RVs K φ H vs m) : RVs K φ H vs.dropLast m.dropLast := by
  rw [List.dropLast_eq_take, List.dropLast_eq_take, r.len]
  exact r.take _
/-- a place is read -/
theorem HR.lst (r : HR K φ h H) {n : Nat} {a : Addr} {xs : List MV} (e : φ[n]? = some a) (q : h[n]? = some (.lst xs)) : ∃ vs, H a = some (.lst vs) ∧ RVs K φ H vs xs ∧ xs.length ≤ sizeLine := r.at_ n a _ e q
/-- a new tuple, or another thing that is no list of ours -/
theorem stp_new {p : Addr} {o : HO} (hp : H p = none) : Stp φ H φ (upd H p o) :=
  ⟨⟨[], (List.append_nil _).symm⟩, fun a u e _ _ => by rw [upd_ne (ne_of_none e hp)]; exact e, fun a ps e _ => ⟨ps, by rw [upd_ne (ne_of_none e hp)]; exact e, id⟩, fun _ e => .inl e⟩
theorem HR.keep (r : HR K φ h H) (s : Stp φ H φ H1) (k : ∀ a ∈ φ, H1 a = H a) : HR K φ h H1 := by
  refine ⟨r.len, r.nd, r.tabs s, fun i a o e q => ?_⟩
  have h0 := r.at_ i a o e q
  cases o with
  | lst xs =>
    obtain ⟨vs, e1, e2, e3⟩ := h0
    exact ⟨vs, by rw [k a (List.mem_of_getElem? e)]; exact e1, RVs.mono s r.dom _ _ e2, e3⟩
theorem HR.new (r : HR K φ h H) {p : Addr} {o : HO} (hp : H p = none) : HR K φ h (upd H p o) :=
  r.keep (stp_new hp) fun a ha => by
    obtain ⟨vs, e⟩ := r.dom a ha
    exact upd_ne (ne_of_none e hp)
/-- a new list of ours -/
theorem stp_lst {p : Addr} {o : HO} (hp : H p = none) : Stp φ H (φ ++ [p]) (upd H p o) :=
  ⟨⟨[p], rfl⟩, fun a u e _ _ => by rw [upd_ne (ne_of_none e hp)]; exact e, fun a ps e _ => ⟨ps, by rw [upd_ne (ne_of_none e hp)]; exact e, id⟩, fun a e => by
    rcases List.mem_append.mp e with e | e
    · exact .inl e
    · right; rw [List.mem_singleton.mp e]; exact hp⟩
theorem HR.push (r : HR K φ h H) {p : Addr} {vs : List V} {xs : List MV} (hp : H p = none) (q : RVs K φ H vs xs) (z : xs.length ≤ sizeLine) : HR K (φ ++ [p]) (h ++ [.lst xs]) (upd H p (.lst vs)) := by
  have s : Stp φ H (φ ++ [p]) (upd H p (.lst vs)) := stp_lst hp
  have np : p ∉ φ := fun hm => by
    obtain ⟨ws, e⟩ := r.dom p hm
    rw [hp] at e; cases e
  refine ⟨by rw [List.length_append, List.length_append, r.len]; rfl, ?_, r.tabs s, fun i a o e1 e2 => ?_⟩
  · rw [List.nodup_append]
    refine ⟨r.nd, by simp, fun a ha b hb => ?_⟩
    rw [List.mem_singleton.mp hb]
    intro z; rw [z] at ha; exact np ha
  · by_cases hi : i < φ.length
    · rw [List.getElem?_append_left hi] at e1
      rw [List.getElem?_append_left (by rw [← r.len]; exact hi)] at e2
      have h0 := r.at_ i a o e1 e2
      cases o with
      | lst ys =>
        obtain ⟨ws, p1, p2, p3⟩ := h0
        exact ⟨ws, by rw [upd_ne (ne_of_none p1 hp)]; exact p1, RVs.mono s r.dom _ _ p2, p3⟩
    · have hi2 : i = φ.length := by
        have := (List.getElem?_eq_some_iff.mp e1).1
        rw [List.length_append, List.length_singleton] at this
        omega
      subst hi2
      rw [List.getElem?_append_right (Nat.le_refl _), Nat.sub_self] at e1
      rw [List.getElem?_append_right (by rw [r.len]; exact Nat.le_refl _), r.len, Nat.sub_self] at e2
      cases e1; cases e2
      exact ⟨vs, upd_same, RVs.mono s r.dom _ _ q, z⟩
/-- a list of ours is changed -/
theorem stp_set {n : Nat} {p : Addr} {o : HO} (e : φ[n]? = some p) : Stp φ H φ (upd H p o) :=
  ⟨⟨[], (List.append_nil _).symm⟩, fun a u q na _ => by
    rw [upd_ne (fun z => na (by rw [z]; exact List.mem_of_getElem? e))]; exact q, fun a ps q na => ⟨ps, by
    rw [upd_ne (fun z => na (by rw [z]; exact List.mem_of_getElem? e))]; exact q, id⟩, fun _ q => .inl q⟩
theorem HR.put (r : HR K φ h H) {n : Nat} {p : Addr} {vs : List V} {xs : List MV} (e : φ[n]? = some p) (q : RVs K φ H vs xs) (z : xs.length ≤ sizeLine) : HR K φ (h.set n (.lst xs)) (upd H p (.lst vs)) := by
  have s : Stp φ H φ (upd H p (.lst vs)) := stp_set e
  refine ⟨by rw [List.length_set]; exact r.len, r.nd, r.tabs s, fun i a o e1 e2 => ?_⟩
  by_cases hi : i = n
  · subst hi
    rw [e] at e1; cases e1
    have hl : i < h.length := by rw [← r.len]; exact (List.getElem?_eq_some_iff.mp e).1
    rw [List.getElem?_set_self hl] at e2
    cases e2
    exact ⟨vs, upd_same, RVs.mono s r.dom _ _ q, z⟩
  · rw [List.getElem?_set_ne (Ne.symm hi)] at e2
    have h0 := r.at_ i a o e1 e2
    have na : a ≠ p := fun w => hi (by
      subst w
      obtain ⟨h1, f1⟩ := List.getElem?_eq_some_iff.mp e1
      obtain ⟨h2, f2⟩ := List.getElem?_eq_some_iff.mp e
      exact (List.getElem_inj r.nd).mp (f1.trans f2.symm))
    cases o with
    | lst ys =>
      obtain ⟨ws, p1, p2, p3⟩ := h0
      exact ⟨ws, by rw [upd_ne na]; exact p1, RVs.mono s r.dom _ _ p2, p3⟩
theorem gc_ok {v : V} {r : MV × MH} (r0 : HR K φ h H) (s : Stp φ H φ' H') (r1 : HR K φ' r.2 H') (e : RV K φ' H' v r.1) :
    ∃ φ2, Stp φ H φ2 H' ∧ HR K φ2 (gc h r).2 H' ∧ RV K φ2 H' v (gc h r).1 := by
  unfold gc
  obtain ⟨l, el⟩ := s.ext
  subst el
  split
  · rename_i hc
    obtain ⟨hle, hold⟩ := hc
    have s0 : Stp φ H φ H' := ⟨⟨[], (List.append_nil _).symm⟩, s.keep, s.tab, fun _ q => .inl q⟩
    have old : ∀ i o, i < h.length → r.2[i]? = some o → o.lt φ.length := fun i o hi q => by
      rw [r0.len]
      rcases hold i o hi q with w | w
      · have hi' : i < φ.length := by rw [r0.len]; exact hi
        have h1 := r0.at_ i φ[i] o (List.getElem?_eq_getElem hi') w
        cases o with
        | lst xs =>
          obtain ⟨vs, _, q2, _⟩ := h1
          have := RVs.low _ _ q2
          rw [r0.len] at this
          exact this
      · exact w
    have h0 : HR K φ (r.2.take h.length) H' := by
      refine ⟨by rw [List.length_take, r0.len]; omega, r0.nd, r1.tab, fun i a o e1 e2 => ?_⟩
      have hi : i < h.length := by rw [← r0.len]; exact (List.getElem?_eq_some_iff.mp e1).1
      rw [List.getElem?_take_of_lt hi] at e2
      have q := r1.at_ i a o (by rw [List.getElem?_append_left (by rw [r0.len]; exact hi)]; exact e1) e2
      have b := old i o hi e2
      cases o with
      | lst xs =>
        obtain ⟨vs, q1, q2, q3⟩ := q
        exact ⟨vs, q1, RVs.cut xs vs b q2, q3⟩
    split
    · rename_i hl
      exact ⟨φ, s0, h0, RV.cut _ _ (by rw [r0.len]; exact hl) e⟩
    · rename_i hl
      split
      · rename_i p hp
        split
        · rename_i o ho
          split
          · rename_i hlt
            rw [hp] at e
            obtain ⟨a, ea, rfl⟩ := e
            have hpn : h.length ≤ p := by
              rw [hp] at hl
              exact Nat.le_of_not_lt hl
            have q := r1.at_ p a o ea ho
            have na : a ∉ φ := fun hm => by
              obtain ⟨j, hj, ej⟩ := List.mem_iff_getElem.mp hm
              have f1 : (φ ++ l)[j]? = some a := by rw [List.getElem?_append_left hj, List.getElem?_eq_getElem hj, ej]
              obtain ⟨g1, f1⟩ := List.getElem?_eq_some_iff.mp f1
              obtain ⟨g2, f2⟩ := List.getElem?_eq_some_iff.mp ea
              have := (List.getElem_inj r1.nd).mp (f1.trans f2.symm)
              rw [r0.len] at hj
              omega
            have hHa : H a = none := by
              rcases s.new a (List.mem_of_getElem? ea) with w | w
              · exact absurd w na
              · exact w
            cases o with
            | lst xs =>
              obtain ⟨vs, q1, q2, q3⟩ := q
              have q2' : RVs K φ H' vs xs := RVs.cut xs vs (by rw [r0.len]; exact hlt) q2
              have s2 : Stp φ H (φ ++ [a]) H' := ⟨⟨[a], rfl⟩, s.keep, s.tab, fun b hb => by
                rcases List.mem_append.mp hb with w | w
                · exact .inl w
                · right; rw [List.mem_singleton.mp w]; exact hHa⟩
              refine ⟨φ ++ [a], s2, ⟨?_, ?_, r1.tab, fun i b o2 e1 e2 => ?_⟩, ?_⟩
              · rw [List.length_append, List.length_append, h0.len]; rfl
              · rw [List.nodup_append]
                refine ⟨r0.nd, by simp, fun b hb c hc => ?_⟩
                rw [List.mem_singleton.mp hc]
                intro z; rw [z] at hb; exact na hb
              · have hln : (List.take h.length r.2).length = φ.length := by rw [List.length_take, r0.len]; omega
                by_cases hi : i < φ.length
                · rw [List.getElem?_append_left hi] at e1
                  rw [List.getElem?_append_left (by rw [hln]; exact hi)] at e2
                  have w := h0.at_ i b o2 e1 e2
                  cases o2 with
                  | lst ys =>
                    obtain ⟨ws, p1, p2, p3⟩ := w
                    exact ⟨ws, p1, RVs.ext _ _ p2, p3⟩
                · have hi2 : i = φ.length := by
                    have := (List.getElem?_eq_some_iff.mp e1).1
                    rw [List.length_append, List.length_singleton] at this
                    omega
                  subst hi2
                  rw [List.getElem?_append_right (Nat.le_refl _), Nat.sub_self] at e1
                  rw [List.getElem?_append_right (by rw [hln]; exact Nat.le_refl _), hln, Nat.sub_self] at e2
                  cases e1; cases e2
                  exact ⟨vs, q1, RVs.ext _ _ q2', q3⟩
              · exact ⟨a, by rw [← r0.len, List.getElem?_append_right (Nat.le_refl _), Nat.sub_self]; rfl, rfl⟩
          · exact ⟨φ ++ l, s, r1, e⟩
        · exact ⟨φ ++ l, s, r1, e⟩
      · exact ⟨φ ++ l, s, r1, e⟩
  · exact ⟨φ ++ l, s, r1, e⟩
theorem wk_upd {D : Addr} {vs : List V} {o : HO} (e : H D = some (.lst vs)) : Wk φ H φ (upd H D o) := by
  refine ⟨fun _ _ e => e, fun a xs q => ?_, fun a o u q => ?_⟩
  · rw [upd_ne (fun z => by rw [z, e] at q; cases q)]; exact q
  · rw [upd_ne (fun z => by rw [z, e] at q; cases q)]; exact q
/-- a new list becomes a frozen one -/
theorem frz_ok {v : V} {r r' : MV × MH} (r0 : HR K φ h H) (s : Stp φ H φ' H') (r1 : HR K φ' r.2 H') (e : RV K φ' H' v r.1) (hf : frzM h r = some r') :
    (∃ d vs, v = .ref d ∧ H' d = some (.lst vs) ∧ ∀ od, Stp φ H φ (upd H' d (.frz od (.lst vs))) ∧ HR K φ r'.2 (upd H' d (.frz od (.lst vs))) ∧ RV K φ (upd H' d (.frz od (.lst vs))) v r'.1) ∨
    ∃ φ2, Stp φ H φ2 H' ∧ HR K φ2 r'.2 H' ∧ RV K φ2 H' v r'.1 := by
  unfold frzM at hf
  split at hf
  · rename_i p hp
    split at hf
    · rename_i xs hx
      split at hf
      · rename_i hc
        cases hf
        obtain ⟨hpn, hle, hold, hlt⟩ := hc
        left
        obtain ⟨l, el⟩ := s.ext
        subst el
        rw [hp] at e
        obtain ⟨a, ea, rfl⟩ := e
        obtain ⟨vs, q1, q2, q3⟩ := r1.lst ea hx
        have na : a ∉ φ := fun hm => by
          obtain ⟨j, hj, ej⟩ := List.mem_iff_getElem.mp hm
          have f1 : (φ ++ l)[j]? = some a := by rw [List.getElem?_append_left hj, List.getElem?_eq_getElem hj, ej]
          obtain ⟨g1, f1⟩ := List.getElem?_eq_some_iff.mp f1
          obtain ⟨g2, f2⟩ := List.getElem?_eq_some_iff.mp ea
          have := (List.getElem_inj r1.nd).mp (f1.trans f2.symm)
          rw [r0.len] at hj
          omega
        have hHa : H a = none := by
          rcases s.new a (List.mem_of_getElem? ea) with w | w
          · exact absurd w na
          · exact w
        have q2' : RVs K φ H' vs xs := RVs.cut xs vs (by rw [r0.len]; exact hlt) q2
        refine ⟨a, vs, rfl, q1, fun od => ?_⟩
        have wk : Wk φ H' φ (upd H' a (.frz od (.lst vs))) := wk_upd q1
        have nH : ∀ b o, H b = some o → b ≠ a := fun b o eb z => by rw [z, hHa] at eb; cases eb
        refine ⟨⟨⟨[], (List.append_nil _).symm⟩, fun b o eb nb nt => ?_, fun b ps eb nb => ?_, fun _ q => .inl q⟩, ⟨?_, r0.nd, fun P hP => ?_, fun i b o e1 e2 => ?_⟩, ⟨a, vs, rfl, ⟨od, upd_same⟩, RVs.wk wk xs vs q2', q3⟩⟩
        · rw [upd_ne (nH b o eb)]; exact s.keep b o eb nb nt
        · rw [upd_ne (nH b _ eb)]; exact s.tab b ps eb nb
        · rw [List.length_take, r0.len]; omega
        · obtain ⟨ps, e1, e2⟩ := r1.tab P hP
          exact ⟨ps, by rw [upd_ne (fun z => by rw [z, q1] at e1; cases e1)]; exact e1, e2⟩
        · have hi : i < h.length := by rw [← r0.len]; exact (List.getElem?_eq_some_iff.mp e1).1
          rw [List.getElem?_take_of_lt hi] at e2
          have q := r1.at_ i b o (by rw [List.getElem?_append_left (by rw [r0.len]; exact hi)]; exact e1) e2
          have bl : o.lt φ.length := by
            rw [r0.len]
            rcases hold i o hi e2 with w | w
            · have hi' : i < φ.length := by rw [r0.len]; exact hi
              have h1 := r0.at_ i φ[i] o (List.getElem?_eq_getElem hi') w
              cases o with
              | lst ys =>
                obtain ⟨ws, _, q2, _⟩ := h1
                have := RVs.low _ _ q2
                rw [r0.len] at this
                exact this
            · exact w
          have nb : b ≠ a := fun z => na (by rw [← z]; exact List.mem_of_getElem? e1)
          cases o with
          | lst ys =>
            obtain ⟨ws, p1, p2, p3⟩ := q
            exact ⟨ws, by rw [upd_ne nb]; exact p1, RVs.wk wk ys ws (RVs.cut ys ws bl p2), p3⟩
      · cases hf
    · cases hf
  · cases hf
    right
    exact gc_ok r0 s r1 e
end
end MP
namespace MP
open PySem PySem.Spec PyProof.Rows L2
structure Ew (K : Fra) (φ : List Addr) (h : MH) (env : Env) (σ : L2.St) (H : Hp) : Prop where
  hr : HR K φ h H
  len : env.length = σ.length
  at_ : ∀ (i : Nat) (m : MV), env[i]? = some (some m) → ∃ v, σ[i]? = some (some v) ∧ RV K φ H v m
/-- what is wanted behind a value -/
def Post (K : Fra) (φ : List Addr) (H : Hp) (Q : VK) (r : MV × MH) : Prop := ∀ φ' H' v, Stp φ H φ' H' → HR K φ' r.2 H' → RV K φ' H' v r.1 → Q v H'
def PostA (K : Fra) (φ : List Addr) (H : Hp) (Q : List V → Hp → Prop) (r : List MV × MH) : Prop := ∀ φ' H' v, Stp φ H φ' H' → HR K φ' r.2 H' → RVs K φ' H' v r.1 → Q v H'
def tEv (K : Fra) (ev : Env → MH → R) : TE := fun σ H Q => ∃ φ h env r, Ew K φ h env σ H ∧ ev env h = some r ∧ Post K φ H Q r
def tTv (K : Fra) (ev : Env → MH → R) : TT := fun σ H Q => ∃ φ h env r, Ew K φ h env σ H ∧ ev env h = some r ∧ ∃ c, truth r.2 r.1 = some c ∧ ∀ φ' H', Stp φ H φ' H' → HR K φ' r.2 H' → Q c H'
def tEs (K : Fra) (ev : Env → MH → Option (List MV × MH)) : TA := fun σ H Q => ∃ φ h env r, Ew K φ h env σ H ∧ ev env h = some r ∧ PostA K φ H Q r
theorem _root_.L2.PE.imp {X : Cx} {e : Expr} {t t' : TE} (h : PE X e t) (k : ∀ σ H Q, t' σ H Q → t σ H Q) : PE X e t' := ⟨fun pins s σ H Q I q => h.run pins s σ H Q I (k _ _ _ q)⟩
theorem _root_.L2.PT.imp {X : Cx} {e : Expr} {t t' : TT} (h : PT X e t) (k : ∀ σ H Q, t' σ H Q → t σ H Q) : PT X e t' := ⟨fun pins s σ H Q I q => h.run pins s σ H Q I (k _ _ _ q)⟩
theorem _root_.L2.PW.imp {X : Cx} {e : Expr} {t t' : TT} (h : PW X e t) (k : ∀ σ H Q, t' σ H Q → t σ H Q) : PW X e t' := ⟨fun wh pins s σ H Q I q => h.run wh pins s σ H Q I (k _ _ _ q)⟩
theorem _root_.L2.PA.imp {X : Cx} {e : List Expr} {t t' : TA} (h : PA X e t) (k : ∀ σ H Q, t' σ H Q → t σ H Q) : PA X e t' := ⟨fun p pins s σ H Q I q => h.run p pins s σ H Q I (k _ _ _ q)⟩
theorem _root_.L2.PS.imp {X : Cx} {e : Stmt} {t t' : TS} (h : PS X e t) (k : ∀ D σ H, t' D σ H → t D σ H) : PS X e t' := ⟨fun pins s σ H D I q => h.run pins s σ H D I (k _ _ _ q)⟩
theorem _root_.L2.PSs.imp {X : Cx} {e : List Stmt} {t t' : TS} (h : PSs X e t) (k : ∀ D σ H, t' D σ H → t D σ H) : PSs X e t' := ⟨fun pins s σ H D I q => h.run pins s σ H D I (k _ _ _ q)⟩
section
variable {K : Fra} {φ φ' φ1 φ2 : List Addr} {H H' H1 H2 : Hp} {h h' h1 h2 : MH} {v : V} {m : MV} {env : Env} {σ : L2.St}
theorem Ew.step (w : Ew K φ h env σ H) (s : Stp φ H φ1 H1) (r : HR K φ1 h1 H1) : Ew K φ1 h1 env σ H1 :=
  ⟨r, w.len, fun i m e => let ⟨v, e1, e2⟩ := w.at_ i m e; ⟨v, e1, RV.mono s w.hr.dom m v e2⟩⟩
theorem go {ev : Env → MH → R} {r : MV × MH} {Q : VK} (w : Ew K φ h env σ H) (e : ev env h = some r) (k : ∀ φ1 H1 v, Stp φ H φ1 H1 → Ew K φ1 r.2 env σ H1 → RV K φ1 H1 v r.1 → Q v H1) : tEv K ev σ H Q :=
  ⟨φ, h, env, r, w, e, fun φ1 H1 v s hr rv => k φ1 H1 v s (w.step s hr) rv⟩
theorem goA {ev : Env → MH → Option (List MV × MH)} {r : List MV × MH} {Q : List V → Hp → Prop} (w : Ew K φ h env σ H) (e : ev env h = some r) (k : ∀ φ1 H1 v, Stp φ H φ1 H1 → Ew K φ1 r.2 env σ H1 → RVs K φ1 H1 v r.1 → Q v H1) : tEs K ev σ H Q :=
  ⟨φ, h, env, r, w, e, fun φ1 H1 v s hr rv => k φ1 H1 v s (w.step s hr) rv⟩
theorem Post.on {Q : VK} {r : MV × MH} (p : Post K φ H Q r) (s : Stp φ H φ1 H1) : Post K φ1 H1 Q r := fun φ' H' v s' hr rv => p φ' H' v (s.trans s') hr rv
theorem PostA.on {Q : List V → Hp → Prop} {r : List MV × MH} (p : PostA K φ H Q r) (s : Stp φ H φ1 H1) : PostA K φ1 H1 Q r := fun φ' H' v s' hr rv => p φ' H' v (s.trans s') hr rv
theorem Post.now {Q : VK} (p : Post K φ H Q (m, h)) (r : HR K φ h H) (e : RV K φ H v m) : Q v H := p φ H v .refl r e
/-- the answer is a new list -/
theorem Post.lst {Q : VK} {xs : List MV} {vs : List V} (p : Post K φ H Q (.ref h.length, h ++ [.lst xs])) (r : HR K φ h H) (q : RVs K φ H vs xs) (z : xs.length ≤ sizeLine) : ∀ a, H a = none → Q (.ref a) (upd H a (.lst vs)) := fun a ha =>
  p (φ ++ [a]) _ _ (stp_lst ha) (r.push ha q z) ⟨a, by rw [← r.len, List.getElem?_append_right (Nat.le_refl _), Nat.sub_self]; rfl, rfl⟩
/-- a new tuple -/
theorem Post.tup {Q : VK} {xs : List MV} {vs : List V} (p : Post K φ H Q (.tup xs, h)) (r : HR K φ h H) (q : RVs K φ H vs xs) (z : xs.length ≤ sizeLine) : ∀ a, H a = none → Q (.ref a) (upd H a (.tup vs)) := fun a ha =>
  p φ _ _ (stp_new ha) (r.new ha) ⟨a, vs, rfl, .of upd_same, RVs.mono (stp_new ha) r.dom _ _ q, z⟩
mutual
theorem dp_of : ∀ (m : MV) (v : V) (d : PyData), toD m = some d → RV K φ H v m → Dp K H v d
  | .non, v, d, e, r => by cases e; cases r; exact .non
  | .bl b, v, d, e, r => by cases e; cases r; exact .bl b
  | .int b, v, d, e, r => by cases e; cases r; exact .int b
  | .str b, v, d, e, r => by cases e; obtain ⟨rfl, _⟩ := r; exact .str b
  | .tup xs, v, d, e, r => by
    simp only [toD, Option.map_eq_some_iff] at e
    obtain ⟨ds, e1, rfl⟩ := e
    obtain ⟨a, vs, rfl, t, rs, _⟩ := r
    exact .tup t (dps_of xs vs ds e1 rs)
  | .frl xs, v, d, e, r => by
    simp only [toD, Option.map_eq_some_iff] at e
    obtain ⟨ds, e1, rfl⟩ := e
    obtain ⟨a, vs, rfl, t, rs, _⟩ := r
    exact .lst t.sq (dps_of xs vs ds e1 rs)
  | .ref _, _, _, e, _ => by cases e
theorem dps_of : ∀ (m : List MV) (v : List V) (d : List PyData), toDs m = some d → RVs K φ H v m → DpAll K H v d
  | [], v, d, e, r => by cases e; cases r; exact .nil
  | x :: xs, v, d, e, r => by
    simp only [toDs, Option.bind_eq_some_iff, Option.map_eq_some_iff] at e
    obtain ⟨d1, e1, ds, e2, rfl⟩ := e
    obtain ⟨w, ws, rfl, r1, r2⟩ := r
    exact .cons (dp_of x w d1 e1 r1) (dps_of xs ws ds e2 r2)
end
theorem dpH_of (hr : HR K φ h H) {m : MV} {v : V} {d : PyData} (e : toDH h m = some d) (r : RV K φ H v m) : Dp K H v d := by
  unfold toDH at e
  split at e
  · rename_i p
    split at e
    · rename_i xs hx
      simp only [Option.map_eq_some_iff] at e
      obtain ⟨ds, e1, rfl⟩ := e
      obtain ⟨a, ea, rfl⟩ := r
      obtain ⟨vs, q1, q2, _⟩ := hr.lst ea hx
      exact .lst (.of q1) (dps_of xs vs ds e1 q2)
    · cases e
  · exact dp_of _ _ _ e r
theorem flat_of {m : MV} {v : V} (f : flatM m = true) (r : RV K φ H v m) : flatV v = true := by
  cases m <;> first | (cases r; rfl) | (obtain ⟨rfl, _⟩ := r; rfl) | cases f
def fV : MV → V
  | .bl b => .bl b | .int b => .int b | .str b => .str b | _ => .non
theorem fV_of {m : MV} {v : V} (f : flatM m = true) (r : RV K φ H v m) : v = fV m := by
  cases m with
  | str b => exact r.1
  | non => exact r
  | bl b => exact r
  | int b => exact r
  | tup b => cases f
  | frl b => cases f
  | ref b => cases f
theorem eqF_of {m n : MV} {v u : V} (f : flatM m = true) (f' : flatM n = true) (r : RV K φ H v m) (q : RV K φ H u n) : eqV v u = eqF m n := by
  rw [fV_of f r, fV_of f' q]
  cases m <;> cases n <;> first | rfl | (cases f'; done) | (cases f; done)
theorem flats_of {xs : List MV} {vs : List V} (f : xs.all flatM = true) (r : RVs K φ H vs xs) : vs.all flatV = true := by
  induction xs generalizing vs with
  | nil => cases r; rfl
  | cons x xs ih =>
    obtain ⟨v, ws, rfl, h1, h2⟩ := r
    simp only [List.all_cons, Bool.and_eq_true] at f ⊢
    exact ⟨flat_of f.1 h1, ih f.2 h2⟩
theorem inV_of {x : MV} {u : V} {xs : List MV} {vs : List V} (f : xs.all flatM = true) (fx : flatM x = true) (r : RVs K φ H vs xs) (q : RV K φ H u x) : inV u vs = xs.any fun y => eqF y x := by
  unfold inV
  induction xs generalizing vs with
  | nil => cases r; rfl
  | cons y xs ih =>
    obtain ⟨v, ws, rfl, h1, h2⟩ := r
    simp only [List.all_cons, Bool.and_eq_true] at f
    rw [List.any_cons, List.any_cons, eqF_of f.1 fx h1 q, ih f.2 h2]
/-- a sequence as it stands -/
theorem seq_of {m : MV} {v : V} {xs : List MV} (hr : HR K φ h H) (r : RV K φ H v m) (e : seqM h m = some xs) : ∃ a vs, v = .ref a ∧ (SqL K H a vs ∨ SqT K H a vs) ∧ RVs K φ H vs xs ∧ xs.length ≤ sizeLine := by
  cases m with
  | tup ys =>
    cases e
    obtain ⟨a, vs, rfl, t, q, z⟩ := r
    exact ⟨a, vs, rfl, .inr t, q, z⟩
  | frl ys =>
    cases e
    obtain ⟨a, vs, rfl, t, q, z⟩ := r
    exact ⟨a, vs, rfl, .inl t.sq, q, z⟩
  | ref p =>
    obtain ⟨a, ea, rfl⟩ := r
    simp only [seqM] at e
    split at e
    · rename_i ys hy
      cases e
      obtain ⟨vs, q1, q2, q3⟩ := hr.lst ea hy
      exact ⟨a, vs, rfl, .inl (.of q1), q2, q3⟩
    · cases e
  | _ => cases e
theorem tru_of {m : MV} {v : V} {c : Bool} (hr : HR K φ h H) (r : RV K φ H v m) (e : truth h m = some c) : TruV K v H c := by
  cases m with
  | non => cases r; cases e; rfl
  | bl b => cases r; cases e; rfl
  | int b => cases r; cases e; rfl
  | str b => obtain ⟨rfl, z⟩ := r; cases e; exact ⟨z, rfl⟩
  | tup ys =>
    cases e
    obtain ⟨a, vs, rfl, t, q, z⟩ := r
    refine .inr (.inl ⟨vs, t, ?_⟩)
    have := q.len
    cases ys <;> cases vs <;> simp_all
  | frl ys =>
    cases e
    obtain ⟨a, vs, rfl, t, q, z⟩ := r
    refine .inl ⟨vs, t.sq, ?_⟩
    have := q.len
    cases ys <;> cases vs <;> simp_all
  | ref p =>
    obtain ⟨a, ea, rfl⟩ := r
    simp only [truth] at e
    split at e
    · rename_i ys hy
      cases e
      obtain ⟨vs, q1, q2, q3⟩ := hr.lst ea hy
      refine .inl ⟨vs, .of q1, ?_⟩
      have := q2.len
      cases ys <;> cases vs <;> simp_all
    · cases e
end
def bop : BOp → Operator
  | .add => .Add | .sub => .Sub | .mul => .Mult | .mod => .Mod | .fdiv => .FloorDiv | .pow => .Pow
def cop : COp → CmpOp
  | .lt => .Lt | .le => .LtE | .gt => .Gt | .ge => .GtE | .eq => .Eq | .ne => .NotEq | .isN => .Is | .notN => .IsNot | .isin => .In | .notin => .NotIn
def rB (K : Fra) (o : BOp) : R2 := fun x y H Q => ∃ φ h a b r, HR K φ h H ∧ RV K φ H x a ∧ RV K φ H y b ∧ binM o h a b = some r ∧ Post K φ H Q r
def rC (K : Fra) (o : COp) : R2 := fun x y H Q => ∃ φ h a b c, HR K φ h H ∧ RV K φ H x a ∧ RV K φ H y b ∧ cmpM o h a b = some c ∧ Q (.bl c) H
section
variable {X : Cx}
def rInT (K : Fra) (neg : Bool) : R2 := fun x y H Q => ∃ d ds, Dp K H x d ∧ Dp K H y (.tuple ds) ∧ SeqAt.shaped d = true ∧ SeqAt.shaped (.tuple ds) = true ∧ Q (.bl (if neg = true then !ds.any fun z => PyData.eqv z d else ds.any fun z => PyData.eqv z d)) H
theorem op_inT (hu : X.A.units + 65 < cLine) : OpR X (compareOp .In) (rInT X.K false) := by
  rintro pins s σ H x y v u Q I rx ry ⟨d, ds, hd, he, sd, se, q⟩
  obtain ⟨as, q1⟩ := Dp.reads I d x v hd rx
  obtain ⟨bs, q2⟩ := Dp.reads I (.tuple ds) y u he ry
  exact SeqAt.in_tuple_reads q2 q1 (SeqAt.canLay_of_shaped se) (SeqAt.canLay_of_shaped sd) (room_in_shaped sd hu) ⟨.bl _, H, I, rfl, q⟩
theorem op_notInT (hu : X.A.units + 65 < cLine) : OpR X (compareOp .NotIn) (rInT X.K true) := by
  rintro pins s σ H x y v u Q I rx ry ⟨d, ds, hd, he, sd, se, q⟩
  obtain ⟨as, q1⟩ := Dp.reads I d x v hd rx
  obtain ⟨bs, q2⟩ := Dp.reads I (.tuple ds) y u he ry
  exact SeqAt.notIn_tuple_reads q2 q1 (SeqAt.canLay_of_shaped se) (SeqAt.canLay_of_shaped sd) (room_in_shaped sd hu) ⟨.bl _, H, I, rfl, q⟩
end
theorem inD_of {K : Fra} {φ : List Addr} {H : Hp} {a b : MV} {x y : V} {c : Bool} (e : inD a b = some c) (ha : RV K φ H x a) (hb : RV K φ H y b) : ∃ d ds, Dp K H x d ∧ Dp K H y (.tuple ds) ∧ SeqAt.shaped d = true ∧ SeqAt.shaped (.tuple ds) = true ∧ c = ds.any fun z => PyData.eqv z d := by
  unfold inD at e
  split at e
  · rename_i ys
    simp only [Option.bind_eq_some_iff] at e
    obtain ⟨d, e1, ds, e2, e3⟩ := e
    split at e3
    · rename_i hs
      cases e3
      exact ⟨d, ds, dp_of _ _ _ e1 ha, dp_of (.tup ys) y (.tuple ds) (by simp only [toD, e2, Option.map_some]) hb, hs.1, hs.2, rfl⟩
    · cases e3
  · cases e
section
variable {X : Cx}
theorem lim_eq : LIM = sizeLine := rfl
/-- a list, tracked or frozen -/
def LsF (H : Hp) (a : Addr) (vs : List V) : Prop := H a = some (.lst vs) ∨ ∃ o, H a = some (.frz o (.lst vs))
theorem lsF_of {K : Fra} {φ : List Addr} {H : Hp} {h : MH} {m : MV} {v : V} {xs : List MV} (hr : HR K φ h H) (r : RV K φ H v m) (e : lstM h m = some xs) : ∃ a vs, v = .ref a ∧ LsF H a vs ∧ RVs K φ H vs xs ∧ xs.length ≤ sizeLine := by
  cases m with
  | frl ys =>
    cases e
    obtain ⟨a, vs, rfl, t, q, z⟩ := r
    exact ⟨a, vs, rfl, .inr t, q, z⟩
  | ref p =>
    obtain ⟨a, ea, rfl⟩ := r
    simp only [lstM] at e
    split at e
    · rename_i ys hy
      cases e
      obtain ⟨vs, q1, q2, q3⟩ := hr.lst ea hy
      exact ⟨a, vs, rfl, .inl q1, q2, q3⟩
    · cases e
  | _ => cases e
theorem lsF_at {pins : List (Addr × Obj)} {σ : L2.St} {H : Hp} {s : Shared} {l : Addr} {xs : List V} (I : Inv X pins σ H s) (hH : LsF H l xs) : xs.length ≤ sizeLine ∧ ∃ (its : List Value) (n : Nat), Vals xs its ∧ xs.length = its.length ∧ s.heap.get? l = some { cls := .type "list", data := .seq its.toArray n } := by
  rcases hH with hH | ⟨o, hH⟩
  · exact I.lstM hH
  · obtain ⟨e0, z, its, n, r, e⟩ := I.hok l _ hH
    exact ⟨z, its, n, r, r.length, e⟩
def rCatF : R2 := fun x y H Q => ∃ l b xs zs, x = .ref l ∧ y = .ref b ∧ LsF H l xs ∧ LsF H b zs ∧ xs.length + zs.length ≤ sizeLine ∧ ∀ p, H p = none → Q (.ref p) (upd H p (.lst (xs ++ zs)))
theorem op_catF : OpR X (binaryOp .Add) rCatF := by
  intro pins s σ H x y v u Q I rx ry h
  obtain ⟨l, b, xs, zs, rfl, rfl, hH, hB, hz, q⟩ := h
  cases rx
  cases ry
  obtain ⟨z, its, n, r, hl, e⟩ := lsF_at I hH
  obtain ⟨z2, its2, n2, r2, hl2, e2⟩ := lsF_at I hB
  refine PySem.P.add_list e e2 ?_ (by rw [List.size_toArray, List.size_toArray]; omega)
  have ea : its.toArray ++ its2.toArray = (its ++ its2).toArray := by simp
  rw [ea]
  exact ⟨.ref _, _, I.lnew (t' := s.toks) (r.append r2) (by rw [List.length_append]; omega), rfl, q _ I.fresh⟩
theorem opB (o : BOp) : OpR X (binaryOp (bop o)) (rB X.K o) := by
  intro pins s σ H x y v u Q I rx ry hh
  obtain ⟨φ, h, a, b, r, hr, ha, hb, e, q⟩ := hh
  cases o with
  | add =>
    simp only [binM] at e
    split at e
    · rename_i i j
      cases e; cases ha; cases hb
      exact op_add pins s σ H _ _ v u Q I rx ry ⟨i, j, rfl, rfl, q.now hr rfl⟩
    · rename_i i j
      obtain ⟨rfl, za⟩ := ha
      obtain ⟨rfl, zb⟩ := hb
      split at e
      · rename_i hz
        cases e
        exact op_add_str pins s σ H _ _ v u Q I rx ry ⟨i, j, rfl, rfl, hz, q.now hr ⟨rfl, by
          show (i ++ j).cps.size ≤ _
          have : (i ++ j).cps.size = i.cps.size + j.cps.size := by show (i.cps ++ j.cps).size = _; simp
          rw [this]; exact hz⟩⟩
      · cases e
    · rename_i xs ys
      obtain ⟨a, vs, rfl, t, p, z⟩ := ha
      obtain ⟨b, ws, rfl, t', p', z'⟩ := hb
      split at e
      · rename_i hz
        cases e
        have hl : (xs ++ ys).length ≤ sizeLine := by rw [List.length_append]; exact hz
        refine op_catA pins s σ H _ _ v u Q I rx ry ⟨a, b, vs, ws, rfl, rfl, t, t', by rw [p.len, p'.len]; exact hz, fun z1 => ?_, fun z1 z2 => ?_, fun _ _ => q.tup hr (p.app p') hl⟩
        · refine q.now hr ⟨b, ws, rfl, t', ?_, hl⟩
          have := p.app p'
          rw [z1] at this
          exact this
        · refine q.now hr ⟨a, vs, rfl, t, ?_, hl⟩
          have := p.app p'
          rw [z2, List.append_nil] at this
          exact this
      · cases e
    · rename_i m n _ _ _
      simp only [Option.bind_eq_some_iff] at e
      obtain ⟨xs, h1, ys, h2, e⟩ := e
      split at e
      · rename_i hz
        cases e
        obtain ⟨a, vs, rfl, q1, q2, q3⟩ := lsF_of hr ha h1
        obtain ⟨b, ws, rfl, p1, p2, p3⟩ := lsF_of hr hb h2
        exact op_catF pins s σ H _ _ v u Q I rx ry ⟨a, b, vs, ws, rfl, rfl, q1, p1, by rw [q2.len, p2.len]; exact hz, q.lst hr (q2.app p2) (by rw [List.length_append]; exact hz)⟩
      · cases e
  | sub =>
    simp only [binM] at e
    split at e
    · rename_i i j
      cases e; cases ha; cases hb
      exact op_sub pins s σ H _ _ v u Q I rx ry ⟨i, j, rfl, rfl, q.now hr rfl⟩
    · cases e
  | mul =>
    simp only [binM] at e
    split at e
    · rename_i i j
      split at e
      · rename_i hc
        cases e; cases ha; cases hb
        rcases hc with hc | hc
        · exact op_mul pins s σ H _ _ v u Q I rx ry ⟨i, j, rfl, rfl, hc, q.now hr rfl⟩
        · exact op_mulW pins s σ H _ _ v u Q I rx ry ⟨i, j, rfl, rfl, hc, q.now hr rfl⟩
      · cases e
    · cases e
  | mod =>
    simp only [binM] at e
    split at e
    · rename_i i j
      split at e
      · rename_i hc
        cases e; cases ha; cases hb
        exact op_mod pins s σ H _ _ v u Q I rx ry ⟨i, j, rfl, rfl, hc, q.now hr rfl⟩
      · cases e
    · cases e
  | fdiv =>
    simp only [binM] at e
    split at e
    · rename_i i j
      split at e
      · rename_i hc
        cases e; cases ha; cases hb
        exact op_fdivW pins s σ H _ _ v u Q I rx ry ⟨i, j, rfl, rfl, hc, q.now hr rfl⟩
      · cases e
    · cases e
  | pow =>
    simp only [binM] at e
    split at e
    · rename_i i j
      split at e
      · rename_i hc
        cases e; cases ha; cases hb
        exact op_pow pins s σ H _ _ v u Q I rx ry ⟨i, j, rfl, rfl, hc, q.now hr rfl⟩
      · cases e
    · cases e
theorem opC (hu : X.A.units + 65 < cLine) (o : COp) : OpR X (compareOp (cop o)) (rC X.K o) := by
  intro pins s σ H x y v u Q I rx ry hh
  obtain ⟨φ, h, a, b, c, hr, ha, hb, e, q⟩ := hh
  cases o with
  | lt =>
    simp only [cmpM] at e
    split at e
    · rename_i i j
      cases e; cases ha; cases hb
      exact op_lt pins s σ H _ _ v u Q I rx ry ⟨i, j, rfl, rfl, q⟩
    · cases e
  | le =>
    simp only [cmpM] at e
    split at e
    · rename_i i j
      cases e; cases ha; cases hb
      exact op_le pins s σ H _ _ v u Q I rx ry ⟨i, j, rfl, rfl, q⟩
    · cases e
  | gt =>
    simp only [cmpM] at e
    split at e
    · rename_i i j
      cases e; cases ha; cases hb
      exact op_gt pins s σ H _ _ v u Q I rx ry ⟨i, j, rfl, rfl, q⟩
    · cases e
  | ge =>
    simp only [cmpM] at e
    split at e
    · rename_i i j
      cases e; cases ha; cases hb
      exact op_ge pins s σ H _ _ v u Q I rx ry ⟨i, j, rfl, rfl, q⟩
    · cases e
  | eq =>
    simp only [cmpM, eqM, Option.bind_eq_some_iff] at e
    obtain ⟨d, e1, d', e2, e⟩ := e
    split at e
    · rename_i hs
      cases e
      exact op_eqD (by omega) pins s σ H _ _ v u Q I rx ry ⟨d, d', dpH_of hr e1 ha, dpH_of hr e2 hb, hs.1, hs.2, q⟩
    · cases e
  | ne =>
    simp only [cmpM, eqM, Option.bind_eq_some_iff, Option.map_eq_some_iff] at e
    obtain ⟨c0, ⟨d, e1, d', e2, e⟩, rfl⟩ := e
    split at e
    · rename_i hs
      cases e
      exact op_neD (by omega) pins s σ H _ _ v u Q I rx ry ⟨d, d', dpH_of hr e1 ha, dpH_of hr e2 hb, hs.1, hs.2, q⟩
    · cases e
  | isN =>
    simp only [cmpM] at e
    split at e
    · cases e; cases hb
      refine op_isN pins s σ H _ _ v u Q I rx ry ⟨rfl, ?_⟩
      split at q
      · cases ha; exact q
      · rename_i hn
        have : decide (x = V.non) = false := by
          cases a with
          | non => exact absurd rfl hn
          | bl b => cases ha; rfl
          | int b => cases ha; rfl
          | str b => obtain ⟨rfl, _⟩ := ha; rfl
          | tup b => obtain ⟨_, _, rfl, _⟩ := ha; rfl
          | frl b => obtain ⟨_, _, rfl, _⟩ := ha; rfl
          | ref b => obtain ⟨_, _, rfl⟩ := ha; rfl
        rw [this]; exact q
    · cases e
  | notN =>
    simp only [cmpM] at e
    split at e
    · cases e; cases hb
      refine op_notN pins s σ H _ _ v u Q I rx ry ⟨rfl, ?_⟩
      split at q
      · cases ha; exact q
      · rename_i hn
        have : decide (x = V.non) = false := by
          cases a with
          | non => exact absurd rfl hn
          | bl b => cases ha; rfl
          | int b => cases ha; rfl
          | str b => obtain ⟨rfl, _⟩ := ha; rfl
          | tup b => obtain ⟨_, _, rfl, _⟩ := ha; rfl
          | frl b => obtain ⟨_, _, rfl, _⟩ := ha; rfl
          | ref b => obtain ⟨_, _, rfl⟩ := ha; rfl
        rw [this]; exact q
    · cases e
  | isin =>
    simp only [cmpM, inM, Option.bind_eq_some_iff] at e
    obtain ⟨xs, e1, e⟩ := e
    split at e
    · rename_i hf
      cases e
      obtain ⟨a2, vs, rfl, t, p, z⟩ := seq_of hr hb e1
      refine op_in_seq pins s σ H _ _ v u Q I rx ry ⟨a2, vs, rfl, t, flat_of hf.1 ha, flats_of hf.2 p, ?_⟩
      rw [if_neg Bool.false_ne_true, inV_of hf.2 hf.1 p ha]
      exact q
    · obtain ⟨d, ds, d1, d2, s1, s2, rfl⟩ := inD_of e ha hb
      exact op_inT hu pins s σ H _ _ v u Q I rx ry ⟨d, ds, d1, d2, s1, s2, q⟩
  | notin =>
    simp only [cmpM, inM, Option.bind_eq_some_iff, Option.map_eq_some_iff] at e
    obtain ⟨c0, ⟨xs, e1, e⟩, rfl⟩ := e
    split at e
    · rename_i hf
      cases e
      obtain ⟨a2, vs, rfl, t, p, z⟩ := seq_of hr hb e1
      refine op_notIn_seq pins s σ H _ _ v u Q I rx ry ⟨a2, vs, rfl, t, flat_of hf.1 ha, flats_of hf.2 p, ?_⟩
      rw [if_pos rfl, inV_of hf.2 hf.1 p ha]
      exact q
    · obtain ⟨d, ds, d1, d2, s1, s2, rfl⟩ := inD_of e ha hb
      exact op_notInT hu pins s σ H _ _ v u Q I rx ry ⟨d, ds, d1, d2, s1, s2, q⟩
end
end MP
namespace MP
open PySem PySem.Spec PyProof.Rows L2
open Sem (wp)
theorem enumT_new (T : Addr) (xs : Array Value) : Meets (Builtin.«enumerate.__new__» ⟨[.type "enumerate", .ref T], []⟩) (fun _ R u => u.heap.IsTuple T xs ∧
    R (.ok (.ret (.ref (u.heap.push { cls := .type "tuple_iterator", data := .fields #[.ref T, .int 0 0] }).objs.size)))
      { u with heap := (u.heap.push { cls := .type "tuple_iterator", data := .fields #[.ref T, .int 0 0] }).push { cls := .type "enumerate", data := .fields #[.none, .bool false, .ref u.heap.objs.size, rawInt 0, .none, .none] } }) :=
  .of_wp fun pg wd Ar Rr u hu => by
    obtain ⟨hh, gs, dr, tt, ot⟩ := u
    obtain ⟨ht, hR⟩ := hu
    have sb := sub_enumerate
    have go : ∀ {A' : Around} {E : Value → Shared → Prop} {Q : Value → Shared → Prop}, Q (.ref hh.objs.size) ⟨hh.push { cls := .type "tuple_iterator", data := .fields #[.ref T, .int 0 0] }, gs, dr, tt, ot⟩ → wpAny (model pg wd) A' (pyIter (.ref T)) Q E ⟨hh, gs, dr, tt, ot⟩ :=
      fun q => (begins_tuple T xs).iter pg wd _ _ ⟨hh, gs, dr, tt, ot⟩ _ ht q
    have ld : ∃ o, hh.get? T = some o ∧ o.cls = .type "tuple" := by obtain ⟨o, ho, hc, _⟩ := ht; exact ⟨o, ho, hc⟩
    wp_walk using go
    refine wpAny_stack_any fun st => ?_
    refine wpAny_pure ?_
    split <;> (try (rename_i c _ _ _ _ _; cases (c == Value.type "enumerate"))) <;> (wp_walk using go) <;> exact ⟨_, rfl, hR⟩
section
variable {pg : Program} {wd : World} {Ar : Around} {Er : Value → Shared → Prop} {u : Shared}
theorem enumT_call {T : Addr} {xs : Array Value} {Q : Value → Shared → Prop} (ht : u.heap.IsTuple T xs)
    (q : ∀ h2, IsEnum h2 (u.heap.objs.size + 1) u.heap.objs.size 0 .none → h2.IsTupleIter u.heap.objs.size T 0 → (∀ b o, u.heap.get? b = some o → h2.get? b = some o) → Q (.ref (u.heap.objs.size + 1)) { u with heap := h2 }) :
    wpAny (model pg wd) Ar (call (.type "enumerate") [.ref T]) Q Er u := by
  refine callType_new F.called_enumerate (by decide) (F.typeCall_enumerate_1 _) (F.newCall_enumerate_1 _) (fun o => F.args_object_init_2 o _) F.entry_enumerate_new (enumT_new T xs) ⟨ht, ?_⟩
  have z1 : (u.heap.push { cls := .type "tuple_iterator", data := .fields #[.ref T, .int 0 0] }).objs.size = u.heap.objs.size + 1 := Heap.size_push ..
  show _ ∧ _
  rw [z1]
  have e1 := Heap.get?_push_size (u.heap.push { cls := .type "tuple_iterator", data := .fields #[.ref T, .int 0 0] }) (o := { cls := .type "enumerate", data := .fields #[.none, .bool false, .ref u.heap.objs.size, rawInt 0, .none, .none] }) rfl
  rw [z1] at e1
  exact ⟨⟨_, e1, rfl⟩, q _ e1 ⟨_, Heap.get?_push_of_some _ (Heap.get?_push_size _ rfl), rfl, rfl⟩ fun b o z => Heap.get?_push_of_some _ (Heap.get?_push_of_some _ z)⟩
end
/-- the tuple at a, each item in a new pair -/
def IteT (K : Fra) (a : Addr) : It :=
  ⟨fun i H => ∃ (ys : List V) (y : V), SqT K H a ys ∧ ys[i]? = some y, fun i H v H' => ∃ T y, v = .ref T ∧ H T = none ∧ H' = upd H T (.tup [.int (i : Nat), y]) ∧ ∀ ys, SqT K H a ys → ys[i]? = some y, fun i H => ∃ ys : List V, SqT K H a ys ∧ ys.length = i⟩
theorem turn_enumT {P : Program} {w : World} {K : Fra} {es : List Expr} {kk : Nat} {tp : Pos} (a e it : Addr) (hai : a ≠ it) (hae : a ≠ e) :
    Turn P w K (.Tuple es kk tp) (IteT K a) [e, it] e (fun i h => (∃ old, IsEnum h e it ((i : Nat) : Int) old) ∧ h.IsTupleIter it a i ∧ e ≠ it) where
  mem := List.mem_cons_self
  obj := by
    rintro i h ⟨⟨old, he⟩, ⟨o, ho, hc, hd⟩, _⟩ b hb
    rcases List.mem_cons.mp hb with rfl | hb
    · exact ⟨_, he, fun v q => nomatch q⟩
    · rw [List.mem_singleton.mp hb]
      exact ⟨o, ho, fun v q => by rw [hd] at q; cases q⟩
  keep := by
    rintro i h h2 ⟨⟨old, he⟩, hi, hne⟩ k
    exact ⟨⟨old, k e List.mem_cons_self _ he⟩, hi.at fun o q => k it (List.mem_cons_of_mem _ List.mem_cons_self) o q, hne⟩
  item := by
    intro X hP hw hK hc i pins s σ H E I hf st hg
    subst hP hw hK
    obtain ⟨⟨old, he⟩, hit, hne⟩ := st
    obtain ⟨ys, y, hq, hy⟩ := hg
    obtain ⟨its, rv, p, _⟩ := I.tuple hq
    obtain ⟨u, hu, ru⟩ := rv.get hy
    have he0 : e < s.heap.objs.size := Heap.lt_size he
    have hi0 : it < s.heap.objs.size := let ⟨_, q, _⟩ := hit; Heap.lt_size q
    have hlt : i < its.toArray.size := by
      rw [List.size_toArray]
      exact (List.getElem?_eq_some_iff.mp hu).1
    have hef : e ∉ [it, a] := fun z => by
      rcases List.mem_cons.mp z with z | z
      · exact hne z
      · exact hae (List.mem_singleton.mp z).symm
    refine wpAny_pyNext_enum_itemD (Draws.tuple (A := X.A.in1) (show X.A.in1.handled = none from I.ok.hd hc) it a hai its.toArray) he ⟨hit, p⟩ hlt hne hef fun x h1 tk hx ho st1 hT hsz hk => ?_
    have ex : x = u := by
      have z : its.toArray[i]? = some x := hx
      rw [List.getElem?_toArray, hu] at z
      exact (Option.some.inj z).symm
    subst ex
    refine ⟨_, rfl, wpAny_letOwnedTupleGo_enum (s := { s with heap := h1, toks := tk + 1 }) ho fun h2 he2 sb => ?_⟩
    have hT2 := (sb.2 _ (Nat.ne_of_gt he0)).trans hT
    have nw : ObjOk X.prog X.w (upd H s.heap.objs.size (.tup [.int (i : Nat), y])) h2 s.heap.objs.size (.tup [.int (i : Nat), y]) :=
      ⟨by show 2 ≤ sizeLine; decide, [.int i tk, x], .cons ⟨_, rfl⟩ (.cons ru .nil), ⟨_, hT2, rfl, _, rfl⟩⟩
    have kp : ∀ b o, b ∉ [e, it] → s.heap.get? b = some o → h2.get? b = some o := fun b o hb q =>
      (sb.2 b fun z => hb (by rw [z]; exact List.mem_cons_self)).trans (hk b o (fun z => hb (by rw [z]; exact List.mem_cons_self)) (fun z => hb (by rw [z]; exact List.mem_cons_of_mem _ List.mem_cons_self)) q)
    have J : Inv X pins σ (upd H s.heap.objs.size (.tup [.int (i : Nat), y])) { s with heap := h2, toks := tk + 1 } := I.turnedNew (ch := [e, it]) kp hf (Nat.le_refl _) nw
    refine ⟨.ref s.heap.objs.size, _, J, rfl, ⟨_, y, rfl, I.hok.fresh (Nat.le_refl _), rfl, fun zs hz => by rw [I.tuple_inj hz hq]; exact hy⟩, ⟨⟨x, ?_⟩, st1.1.at fun o q => (sb.2 it (Ne.symm hne)).trans q, hne⟩, fun b hb => ?_⟩
    · have e1 : ((i + 1 : Nat) : Int) = (i : Int) + 1 := by omega
      rw [e1]
      exact he2
    · have hb2 : b < s.heap.objs.size := by
        rcases List.mem_cons.mp hb with rfl | hb
        · exact he0
        · rw [List.mem_singleton.mp hb]; exact hi0
      rw [upd_ne (Nat.ne_of_lt hb2)]
      exact (hf b hb).1
  done := by
    intro X hP hw hK hc i pins s σ H E I hf st hg
    subst hP hw hK
    obtain ⟨⟨old, he⟩, hit, hne⟩ := st
    obtain ⟨ys, hq, hy⟩ := hg
    obtain ⟨its, rv, p, _⟩ := I.tuple hq
    obtain ⟨f0, f1, f2, f3, f4, f5⟩ := hf it (List.mem_cons_of_mem _ List.mem_cons_self)
    have hl := rv.length
    have hsz : i = its.toArray.size := by rw [List.size_toArray, ← hl]; exact hy.symm
    subst hsz
    exact wpAny_pyNext_enum_endD (Draws.tuple (A := X.A.in1) (show X.A.in1.handled = none from I.ok.hd hc) it a hai its.toArray) he ⟨hit, p⟩ fun h2 eb => ⟨rfl, I.turned (t' := s.toks) (fun b o hb z => eb b o hb z) f0 f1 f3 f4 f5⟩
  self := fun A i s Q E st q => let ⟨⟨_, he⟩, _⟩ := st; wpAny_pyIter_enum he q
def iEnumT (K : Fra) (ta : TA) : TI := fun σ H R => ta σ H fun vs H1 => ∃ a ys, vs = [.ref a] ∧ SqT K H1 a ys ∧ R (IteT K a) H1
theorem pi_enumT {X : Cx} {ex : Expr} {ta : TA} {p pos tpos : Pos} {es : List Expr} {kk : Nat} (hg : Gl X "enumerate") (hm : X.mg "enumerate" = none) (ha : PA X [ex] ta) (hs : starEach [ex] X.env = [(false, eval ex X.env)]) :
    PI X (.Tuple es kk tpos) (.Call (.Name "enumerate" p) [ex] [] pos) (iEnumT X.K ta) := by
  constructor
  intro pins s σ H R I h
  refine Call_ (ld_blt I hg hm boot_enumerate (PyProof.Rows.callWith_type1 (thn (ha.run pos pins s σ H _ I h) fun us s1 ⟨vs, H1, J, rr, q⟩ => ?_) hs rfl))
  obtain ⟨a, ys, rfl, hy, q⟩ := q
  cases rr with
  | cons r rr =>
    cases rr
    cases r
    obtain ⟨its, rv, pt, _⟩ := J.tuple hy
    have hlt : a < s1.heap.objs.size := let ⟨_, z, _⟩ := id pt; Heap.lt_size z
    refine enumT_call pt fun h2 he hi hk => wpAny_pyIter_enum he ?_
    have J2 : Inv X pins σ H1 { s1 with heap := h2 } := J.kept (t' := s1.toks) hk
    refine ⟨s1.heap.objs.size + 1, [s1.heap.objs.size + 1, s1.heap.objs.size], _, _, H1, rfl, J2, turn_enumT a (s1.heap.objs.size + 1) s1.heap.objs.size (Nat.ne_of_lt hlt) (Nat.ne_of_lt (Nat.lt_succ_of_lt hlt)), ⟨⟨.none, he⟩, hi, Nat.succ_ne_self _⟩, fun b hb => ?_, q⟩
    have hle : s1.heap.objs.size ≤ b := by
      rcases List.mem_cons.mp hb with rfl | hb
      · exact Nat.le_succ _
      · rw [List.mem_singleton.mp hb]; exact Nat.le_refl _
    exact J.fpOk hle (J.hok.fresh hle)
end MP
namespace MP
open PySem PySem.Spec PyProof.Rows L2
section
variable {P : Program} {w : World} {K : Fra} {mg : Str → Option Value} {base : Heap}
theorem fn_frz {k : Nat} {f : Addr} {fd : FuncData} {ps : List Str} {sp : Sp} (F : FnOk P w K mg base CX0 k f fd ps sp) :
    FnOk P w K mg base CX0 k f fd ps (fun vs H Q E => ∃ a ws, H a = some (.lst ws) ∧ ∀ od, sp vs (upd H a (.frz od (.lst ws))) (fun v H' => H' a = some (.frz od (.lst ws)) → Q v (upd H' a (.lst ws))) E) where
  len := fun vs H Q E ⟨a, ws, _, q⟩ => F.len _ _ _ _ (q ⟨.none, none, .plain, #[]⟩)
  run := by
    rintro A outer s H args us vs Q E hr e0 hb hv ⟨a, ws, ha, q⟩
    have x := e0.hok a _ ha
    obtain ⟨od, eo⟩ : ∃ od, s.heap.get? a = some od := let ⟨_, _, _, _, e⟩ := x; ⟨_, e⟩
    have na : ∀ b, H b = none → b ≠ a := fun b e z => by rw [z, ha] at e; cases e
    have nt : ∀ b o, H b = some o → (∀ xs, o ≠ .lst xs) → b ≠ a := fun b o e hn z => by
      rw [z, ha] at e; cases e; exact hn ws rfl
    have up : ∀ {b : Addr}, b ≠ a → upd H a (.frz od (.lst ws)) b = H b := fun h => upd_ne h
    have e1 : Env0 P w K mg base A outer s (upd H a (.frz od (.lst ws))) := by
      refine ⟨e0.frames, e0.mod, fun b o h => ?_, e0.bsz, e0.funs, fun b h => ?_, fun b o h => ?_, e0.bare⟩
      · have := e0.bs b o h
        exact ⟨this.1, by rw [up (na b this.2)]; exact this.2⟩
      · have := e0.frf b h
        rw [up (na b this)]; exact this
      · have st : ∀ {o : HO} {b : Addr}, ObjOk P w H s.heap b o → ObjOk P w (upd H a (.frz od (.lst ws))) s.heap b o := fun y =>
          y.stay (fun _ _ _ e => e) (fun c e => by rw [up (nt c _ e fun _ z => nomatch z)]; exact e) fun c xs e => by rw [up (nt c _ e fun _ z => nomatch z)]; exact e
        by_cases hba : b = a
        · subst hba
          rw [upd_same] at h
          cases h
          exact ⟨eo, st x⟩
        · rw [up hba] at h
          exact st (e0.hok b o h)
    refine PySem.codeAny_mono (F.run A outer s _ args us vs _ E hr e1 hb hv (q od)) fun r s' h => ?_
    revert h
    cases r with
    | error e => exact id
    | ok r =>
      cases r with
      | ret u =>
        rintro ⟨v, H', h1, h2, h3, h4, h5, h6⟩
        have ea : H' a = some (.frz od (.lst ws)) := h3.frzs a od _ upd_same
        have na' : ∀ b, H' b = none → b ≠ a := fun b e z => by rw [z, ea] at e; cases e
        have nt' : ∀ b o, H' b = some o → (∀ o' u', o ≠ .frz o' u') → b ≠ a := fun b o e hn z => by
          rw [z, ea] at e; cases e; exact hn _ _ rfl
        refine ⟨v, upd H' a (.lst ws), h1, h2, ⟨fun b o g n => h3.keep b o g (by rw [up (na b n)]; exact n), fun b o g n => h3.slot b o g (by rw [up (na b n)]; exact n), fun b o g n hx => ?_, h3.there, fun b xs e => ?_, fun b o u' e => ?_, fun b qs e => ?_⟩, fun b o e => ?_, h5, h6 ea⟩
        · have := h3.free b o g (by rw [up (na b n)]; exact n) hx
          rw [upd_ne (na' b this)]; exact this
        · have := h3.tups b xs (by rw [up (nt b _ e fun _ z => nomatch z)]; exact e)
          rw [upd_ne (nt' b _ this fun _ _ z => nomatch z)]; exact this
        · have hb2 : b ≠ a := nt b _ e fun _ z => nomatch z
          have := h3.frzs b o u' (by rw [up hb2]; exact e)
          rw [upd_ne hb2]; exact this
        · obtain ⟨m, this⟩ := h3.tbls b qs (by rw [up (nt b _ e fun _ z => nomatch z)]; exact e)
          exact ⟨m, by rw [upd_ne (nt' b _ this fun _ _ z => nomatch z)]; exact this⟩
        · have st : ∀ {o : HO} {b : Addr}, ObjOk P w H' s'.heap b o → ObjOk P w (upd H' a (.lst ws)) s'.heap b o := fun y =>
            y.stay (fun _ _ _ e => e) (fun c e => by rw [upd_ne (nt' c _ e fun _ _ z => nomatch z)]; exact e) fun c xs e => by rw [upd_ne (nt' c _ e fun _ _ z => nomatch z)]; exact e
          by_cases hba : b = a
          · subst hba
            rw [upd_same] at e
            cases e
            exact st (h4 b _ ea).2
          · rw [upd_ne hba] at e
            exact st (h4 b o e)
      | _ => exact id
end
end MP
namespace MP
open PySem PySem.Spec PyProof.Rows L2
section
open PySem.W PySem.SeqAt
theorem reads_det {h : Heap} {v : Value} {d : PyData} {as : List Addr} (r : Reads h v d as) : ∀ {d' : PyData} {as' : List Addr}, Reads h v d' as' → d = d' := by
  refine Reads.rec (motive_1 := fun v d as _ => ∀ {d' : PyData} {as' : List Addr}, Reads h v d' as' → d = d') (motive_2 := fun vs ds as _ => ∀ {ds' : List PyData} {as' : List Addr}, ReadsAll h vs ds' as' → ds = ds')
    ?_ ?_ ?_ ?_ ?_ ?_ ?_ ?_ ?_ r
  · intro d' as' q; cases q; rfl
  · intro b d' as' q; cases q; rfl
  · intro i t d' as' q; cases q; rfl
  · intro i t d' as' q; cases q; rfl
  · intro a o vs n xs as e1 e2 e3 r1 ih d' as' q
    cases q with
    | list f1 f2 f3 g1 => rw [e1] at f1; cases f1; rw [e3] at f3; cases f3; rw [ih g1]
    | tuple f1 f2 f3 g1 => rw [e1] at f1; cases f1; exact absurd (Value.type.inj (e2.symm.trans f2)) (by decide)
    | dict f1 f2 f3 g1 g2 => rw [e1] at f1; cases f1; exact absurd (Value.type.inj (e2.symm.trans f2)) (by decide)
  · intro a o vs n xs as e1 e2 e3 r1 ih d' as' q
    cases q with
    | list f1 f2 f3 g1 => rw [e1] at f1; cases f1; exact absurd (Value.type.inj (e2.symm.trans f2)) (by decide)
    | tuple f1 f2 f3 g1 => rw [e1] at f1; cases f1; rw [e3] at f3; cases f3; rw [ih g1]
    | dict f1 f2 f3 g1 g2 => rw [e1] at f1; cases f1; exact absurd (Value.type.inj (e2.symm.trans f2)) (by decide)
  · intro a o es n kvs as bs e1 e2 e3 r1 r2 ih1 ih2 d' as' q
    cases q with
    | list f1 f2 f3 g1 => rw [e1] at f1; cases f1; exact absurd (Value.type.inj (e2.symm.trans f2)) (by decide)
    | tuple f1 f2 f3 g1 => rw [e1] at f1; cases f1; exact absurd (Value.type.inj (e2.symm.trans f2)) (by decide)
    | dict f1 f2 f3 g1 g2 =>
      rw [e1] at f1; cases f1; rw [e3] at f3; cases f3
      have h1 := ih1 g1
      have h2 := ih2 g2
      rename_i kvs'
      congr 1
      have : ∀ (a b : List (PyData × PyData)), a.map (·.1) = b.map (·.1) → a.map (·.2) = b.map (·.2) → a = b := by
        intro a
        induction a with
        | nil => intro b p _; cases b with | nil => rfl | cons _ _ => simp at p
        | cons x a ih =>
          intro b p q
          cases b with
          | nil => simp at p
          | cons y b =>
            simp only [List.map_cons, List.cons.injEq] at p q
            rw [ih b p.2 q.2]
            congr 1
            exact Prod.ext p.1 q.1
      exact this _ _ h1 h2
  · intro ds' as' q; cases q; rfl
  · intro v vs d ds as bs r1 r2 ih1 ih2 ds' as' q
    cases q with
    | cons g1 g2 => rw [ih1 g1, ih2 g2]
section
variable {X : Cx}
def rMinD (K : Fra) : List V → Hp → VK → Prop := fun vs H Q => ∃ (a : Addr) (xs : List V) (d : PyData) (ds : List PyData), vs = [V.ref a] ∧ SqL K H a xs ∧ DpAll K H xs (d :: ds) ∧ AlikeAll (d :: ds) ∧ PyData.depthAll (d :: ds) ≤ 60 ∧
  ∀ (i : Nat) (x : V), xs[i]? = some x → (d :: ds)[i]? = some (minD d ds) → Q x H
theorem cr_minD (hc : X.calm = true) (hu : X.A.units + 64 < cLine) : CallR X (.builtin "min") (rMinD X.K) := by
  intro pins s σ H vs us Q I r h
  obtain ⟨a, xs, d, ds, rfl, hs, hd, hal, hdp, q⟩ := h
  obtain ⟨its, rv, hl, _⟩ := I.list hs
  rw [Vals.ref1 r]
  obtain ⟨as, hr⟩ := Dp.readsAll I (d :: ds) xs its hd rv
  refine min_list_data (I.ok.hd hc) hl.isList (vs := its.toArray) (by simpa using hr) hal (by omega) fun i v h' tk bs hv hrd hk => ?_
  have hv2 : its[i]? = some v := by simpa using hv
  obtain ⟨bs2, r2, hi, _, _⟩ := readsAll_at (xs := d :: ds) (by simpa using hr) i v hv2
  have e := reads_det (reads_keeps hk r2) hrd
  have hl2 := rv.length
  have hi2 : i < xs.length := by rw [hl2]; exact (List.getElem?_eq_some_iff.mp hv2).1
  obtain ⟨u, e2, ru⟩ := rv.get (List.getElem?_eq_getElem hi2)
  rw [hv2] at e2; cases e2
  refine ⟨xs[i], H, I.kept hk, ru, q i _ (List.getElem?_eq_getElem hi2) ?_⟩
  rw [← e, List.getD_eq_getElem?_getD, List.getElem?_eq_getElem hi]
  rfl
end
end
mutual
theorem ofD_toD : ∀ (m : MV) (d : PyData), toD m = some d → ofD d = m
  | .non, d, e => by cases e; rfl
  | .bl b, d, e => by cases e; rfl
  | .int b, d, e => by cases e; rfl
  | .str b, d, e => by cases e; rfl
  | .tup xs, d, e => by
    simp only [toD, Option.map_eq_some_iff] at e
    obtain ⟨ds, e1, rfl⟩ := e
    rw [ofD, ofDs_toDs xs ds e1]
  | .frl xs, d, e => by
    simp only [toD, Option.map_eq_some_iff] at e
    obtain ⟨ds, e1, rfl⟩ := e
    rw [ofD, ofDs_toDs xs ds e1]
  | .ref _, d, e => by cases e
theorem ofDs_toDs : ∀ (m : List MV) (d : List PyData), toDs m = some d → ofDs d = m
  | [], d, e => by cases e; rfl
  | x :: xs, d, e => by
    simp only [toDs, Option.bind_eq_some_iff, Option.map_eq_some_iff] at e
    obtain ⟨d1, e1, ds, e2, rfl⟩ := e
    rw [ofDs, ofD_toD x d1 e1, ofDs_toDs xs ds e2]
end
theorem toDs_at : ∀ {m : List MV} {d : List PyData}, toDs m = some d → ∀ (i : Nat) (x : MV), m[i]? = some x → ∃ y, d[i]? = some y ∧ toD x = some y
  | [], d, e, i, x, h => by simp at h
  | x :: xs, d, e, i, z, h => by
    simp only [toDs, Option.bind_eq_some_iff, Option.map_eq_some_iff] at e
    obtain ⟨d1, e1, ds, e2, rfl⟩ := e
    cases i with
    | zero => simp at h; subst h; exact ⟨d1, rfl, e1⟩
    | succ i =>
      obtain ⟨y, p, q⟩ := toDs_at e2 i z (by simpa using h)
      exact ⟨y, by simpa using p, q⟩
def rBi (K : Fra) (f : Bi) : List V → Hp → VK → Prop := fun vs H Q => ∃ φ h ms r, HR K φ h H ∧ RVs K φ H vs ms ∧ biM f h ms = some r ∧ Post K φ H Q r
section
variable {K : Fra} {φ φ' φ1 φ2 : List Addr} {H H' H1 H2 : Hp} {h h' h1 h2 : MH} {v : V} {m : MV} {env : Env} {σ : L2.St}
theorem RVs.is1 {vs : List V} {m : MV} (r : RVs K φ H vs [m]) : ∃ v, vs = [v] ∧ RV K φ H v m := by
  obtain ⟨v, ws, rfl, h1, h2⟩ := r
  cases h2
  exact ⟨v, rfl, h1⟩
theorem RVs.is2 {vs : List V} {m n : MV} (r : RVs K φ H vs [m, n]) : ∃ v u, vs = [v, u] ∧ RV K φ H v m ∧ RV K φ H u n := by
  obtain ⟨v, ws, rfl, h1, h2⟩ := r
  obtain ⟨u, rfl, h3⟩ := RVs.is1 h2
  exact ⟨v, u, rfl, h1, h3⟩
theorem lst_of {m : MV} {v : V} {xs : List MV} (hr : HR K φ h H) (r : RV K φ H v m) (e : lstM h m = some xs) : ∃ a vs, v = .ref a ∧ SqL K H a vs ∧ RVs K φ H vs xs ∧ xs.length ≤ sizeLine := by
  cases m with
  | frl ys =>
    cases e
    obtain ⟨a, vs, rfl, t, q, z⟩ := r
    exact ⟨a, vs, rfl, t.sq, q, z⟩
  | ref p =>
    obtain ⟨a, ea, rfl⟩ := r
    simp only [lstM] at e
    split at e
    · rename_i ys hy
      cases e
      obtain ⟨vs, q1, q2, q3⟩ := hr.lst ea hy
      exact ⟨a, vs, rfl, .of q1, q2, q3⟩
    · cases e
  | _ => cases e
theorem ints_of : ∀ {xs : List MV} {ns : List Int} {vs : List V}, intsM xs = some ns → RVs K φ H vs xs → vs = ns.map V.int
  | [], ns, vs, e, r => by cases e; cases r; rfl
  | x :: xs, ns, vs, e, r => by
    obtain ⟨v, ws, rfl, h1, h2⟩ := r
    cases x <;> simp only [intsM, Option.map_eq_some_iff] at e <;> first | (cases e; done) | skip
    obtain ⟨ms, e1, rfl⟩ := e
    cases h1
    rw [ints_of e1 h2]; rfl
theorem bls_of : ∀ {xs : List MV} {ns : List Bool} {vs : List V}, blsM xs = some ns → RVs K φ H vs xs → vs = ns.map V.bl
  | [], ns, vs, e, r => by cases e; cases r; rfl
  | x :: xs, ns, vs, e, r => by
    obtain ⟨v, ws, rfl, h1, h2⟩ := r
    cases x <;> simp only [blsM, Option.map_eq_some_iff] at e <;> first | (cases e; done) | skip
    obtain ⟨ms, e1, rfl⟩ := e
    cases h1
    rw [bls_of e1 h2]; rfl
theorem maxL_ge : ∀ {ns : List Int} {y : Int}, y ∈ ns → y ≤ maxL ns
  | [], _, h => by simp at h
  | [x], y, h => by simp at h; subst h; exact Int.le_refl _
  | x :: z :: r, y, h => by
    have ih : ∀ y ∈ z :: r, y ≤ maxL (z :: r) := fun y hy => maxL_ge hy
    unfold maxL
    rcases List.mem_cons.mp h with e | e
    · subst e; split <;> omega
    · have := ih y e; split <;> omega
theorem maxL_mem : ∀ {ns : List Int}, ns ≠ [] → maxL ns ∈ ns
  | [], h => absurd rfl h
  | [x], _ => List.mem_singleton.mpr rfl
  | x :: z :: r, _ => by
    have ih : maxL (z :: r) ∈ z :: r := maxL_mem (List.cons_ne_nil _ _)
    unfold maxL
    split
    · exact List.mem_cons_of_mem _ ih
    · exact List.mem_cons_self
theorem minL_le : ∀ {ns : List Int} {y : Int}, y ∈ ns → minL ns ≤ y
  | [], _, h => by simp at h
  | [x], y, h => by simp at h; subst h; exact Int.le_refl _
  | x :: z :: r, y, h => by
    have ih : ∀ y ∈ z :: r, minL (z :: r) ≤ y := fun y hy => minL_le hy
    unfold minL
    rcases List.mem_cons.mp h with e | e
    · subst e; split <;> omega
    · have := ih y e; split <;> omega
theorem minL_mem : ∀ {ns : List Int}, ns ≠ [] → minL ns ∈ ns
  | [], h => absurd rfl h
  | [x], _ => List.mem_singleton.mpr rfl
  | x :: z :: r, _ => by
    have ih : minL (z :: r) ∈ z :: r := minL_mem (List.cons_ne_nil _ _)
    unfold minL
    split
    · exact List.mem_cons_of_mem _ ih
    · exact List.mem_cons_self
end
section
variable {X : Cx}
theorem cLen : CallR X (.builtin "len") (rBi X.K .len) := by
  intro pins s σ H xs us Q I r hh
  obtain ⟨φ, h, ms, q, hr, rs, e, p⟩ := hh
  have e : lenM h ms = some q := e
  unfold lenM at e
  split at e
  · cases e
    obtain ⟨v, rfl, w, z⟩ := RVs.is1 rs
    subst w
    exact call_len pins s σ H _ us Q I r ⟨_, _, rfl, ⟨z, rfl⟩, p.now hr rfl⟩
  · simp only [Option.map_eq_some_iff] at e
    obtain ⟨ys, e1, rfl⟩ := e
    obtain ⟨v, rfl, w⟩ := RVs.is1 rs
    obtain ⟨a, vs, rfl, t, q1, z⟩ := seq_of hr w e1
    refine call_len_seq pins s σ H _ us Q I r ⟨a, vs, rfl, t, ?_⟩
    rw [q1.len]
    exact p.now hr rfl
  · cases e
theorem cInt : CallR X (.type "int") (rBi X.K .int) := by
  intro pins s σ H xs us Q I r hh
  obtain ⟨φ, h, ms, q, hr, rs, e, p⟩ := hh
  have e : intM h ms = some q := e
  unfold intM at e
  split at e
  · cases e
    obtain ⟨v, rfl, w⟩ := RVs.is1 rs
    cases w
    exact call_int1 pins s σ H _ us Q I r (.inl ⟨_, rfl, p.now hr rfl⟩)
  · cases e
    obtain ⟨v, rfl, w⟩ := RVs.is1 rs
    cases w
    exact call_int1 pins s σ H _ us Q I r (.inr ⟨_, rfl, p.now hr rfl⟩)
  · cases e
theorem cAbs : CallR X (.builtin "abs") (rBi X.K .abs) := by
  intro pins s σ H xs us Q I r hh
  obtain ⟨φ, h, ms, q, hr, rs, e, p⟩ := hh
  have e : absM h ms = some q := e
  unfold absM at e
  split at e
  · cases e
    obtain ⟨v, rfl, w⟩ := RVs.is1 rs
    cases w
    exact call_abs pins s σ H _ us Q I r ⟨_, rfl, p.now hr rfl⟩
  · cases e
theorem cMax (hc : X.calm = true) : CallR X (.builtin "max") (rBi X.K .max) := by
  intro pins s σ H xs us Q I r hh
  obtain ⟨φ, h, ms, q, hr, rs, e, p⟩ := hh
  have e : maxM h ms = some q := e
  unfold maxM at e
  split at e
  · cases e
    obtain ⟨v, u, rfl, w, w'⟩ := RVs.is2 rs
    cases w; cases w'
    exact call_max2 hc pins s σ H _ us Q I r ⟨_, _, rfl, p.now hr rfl⟩
  · simp only [Option.bind_eq_some_iff] at e
    obtain ⟨ys, e1, ns, e2, e⟩ := e
    obtain ⟨v, rfl, w⟩ := RVs.is1 rs
    obtain ⟨a, vs, rfl, t, q1, z⟩ := lst_of hr w e1
    split at e
    · cases e
    · rename_i hn
      cases e
      have := ints_of e2 q1
      subst this
      refine cr_max hc pins s σ H _ us Q I r ⟨a, ns, rfl, t, List.length_pos_iff.mpr hn, fun m h1 h2 => ?_⟩
      have em : m = maxL ns := Int.le_antisymm (maxL_ge h1) (h2 _ (maxL_mem hn))
      rw [em]
      exact p.now hr rfl
  · cases e
theorem cMin (hc : X.calm = true) (hu : X.A.units + 64 < cLine) : CallR X (.builtin "min") (rBi X.K .min) := by
  intro pins s σ H xs us Q I r hh
  obtain ⟨φ, h, ms, q, hr, rs, e, p⟩ := hh
  have e : minM h ms = some q := e
  unfold minM at e
  split at e
  · cases e
    obtain ⟨v, u, rfl, w, w'⟩ := RVs.is2 rs
    cases w; cases w'
    exact call_min2 hc pins s σ H _ us Q I r ⟨_, _, rfl, p.now hr rfl⟩
  · simp only [Option.bind_eq_some_iff] at e
    obtain ⟨ys, e1, e⟩ := e
    obtain ⟨v, rfl, w⟩ := RVs.is1 rs
    obtain ⟨a, vs, rfl, t, q1, z⟩ := lst_of hr w e1
    split at e
    · rename_i ns e2
      split at e
      · cases e
      · rename_i hn
        cases e
        have := ints_of e2 q1
        subst this
        refine cr_min hc pins s σ H _ us Q I r ⟨a, ns, rfl, t, List.length_pos_iff.mpr hn, fun m h1 h2 => ?_⟩
        have em : m = minL ns := Int.le_antisymm (h2 _ (minL_mem hn)) (minL_le h1)
        rw [em]
        exact p.now hr rfl
    · unfold minDM at e
      simp only [Option.bind_eq_some_iff] at e
      obtain ⟨ds, e2, e⟩ := e
      split at e
      · cases e
      · rename_i d r0
        split at e
        · rename_i hal
          cases e
          have al : PySem.W.AlikeAll (d :: r0) := by
            refine ⟨fun x hx y hy => ?_, fun x hx hn => ?_⟩
            · have := hal.1
              unfold alikeB at this
              exact List.all_eq_true.mp (List.all_eq_true.mp this x hx) y hy
            · have h2 := hal.2.1
              rw [List.any_eq_false] at h2
              refine h2 x hx ?_
              rw [hn]; rfl
          refine cr_minD hc hu pins s σ H _ us Q I r ⟨a, vs, d, r0, rfl, t, dps_of ys vs _ e2 q1, al, hal.2.2, fun i x hx hm => ?_⟩
          obtain ⟨m, h1, h2⟩ := q1.get' hx
          obtain ⟨y, h3, h4⟩ := toDs_at e2 i m h1
          rw [hm] at h3; cases h3
          rw [ofD_toD m _ h4] at p
          exact p.now hr h2
        · cases e
  · cases e
theorem cSum (hc : X.calm = true) : CallR X (.builtin "sum") (rBi X.K .sum) := by
  intro pins s σ H xs us Q I r hh
  obtain ⟨φ, h, ms, q, hr, rs, e, p⟩ := hh
  have e : sumM h ms = some q := e
  unfold sumM at e
  split at e
  · simp only [Option.bind_eq_some_iff, Option.map_eq_some_iff] at e
    obtain ⟨ys, e1, ns, e2, rfl⟩ := e
    obtain ⟨v, rfl, w⟩ := RVs.is1 rs
    obtain ⟨a, vs, rfl, t, q1, z⟩ := lst_of hr w e1
    have := ints_of e2 q1
    subst this
    exact cr_sum hc pins s σ H _ us Q I r ⟨a, ns, rfl, t, p.now hr rfl⟩
  · cases e
theorem cAll (hc : X.calm = true) : CallR X (.builtin "all") (rBi X.K .all) := by
  intro pins s σ H xs us Q I r hh
  obtain ⟨φ, h, ms, q, hr, rs, e, p⟩ := hh
  have e : allM h ms = some q := e
  unfold allM at e
  split at e
  · simp only [Option.bind_eq_some_iff, Option.map_eq_some_iff] at e
    obtain ⟨ys, e1, ns, e2, rfl⟩ := e
    obtain ⟨v, rfl, w⟩ := RVs.is1 rs
    obtain ⟨a, vs, rfl, t, q1, z⟩ := lst_of hr w e1
    have := bls_of e2 q1
    subst this
    exact cr_all hc pins s σ H _ us Q I r ⟨a, ns, rfl, t, p.now hr rfl⟩
  · cases e
theorem cAny (hc : X.calm = true) : CallR X (.builtin "any") (rBi X.K .any) := by
  intro pins s σ H xs us Q I r hh
  obtain ⟨φ, h, ms, q, hr, rs, e, p⟩ := hh
  have e : anyM h ms = some q := e
  unfold anyM at e
  split at e
  · simp only [Option.bind_eq_some_iff, Option.map_eq_some_iff] at e
    obtain ⟨ys, e1, ns, e2, rfl⟩ := e
    obtain ⟨v, rfl, w⟩ := RVs.is1 rs
    obtain ⟨a, vs, rfl, t, q1, z⟩ := lst_of hr w e1
    have := bls_of e2 q1
    subst this
    exact cr_any hc pins s σ H _ us Q I r ⟨a, ns, rfl, t, p.now hr rfl⟩
  · cases e
theorem cList : CallR X (.type "list") (rBi X.K .list) := by
  intro pins s σ H xs us Q I r hh
  obtain ⟨φ, h, ms, q, hr, rs, e, p⟩ := hh
  have e : listM h ms = some q := e
  unfold listM at e
  split at e
  · simp only [Option.map_eq_some_iff] at e
    obtain ⟨ys, e1, rfl⟩ := e
    obtain ⟨v, rfl, w⟩ := RVs.is1 rs
    obtain ⟨a, vs, rfl, t, q1, z⟩ := seq_of hr w e1
    exact call_list_of pins s σ H _ us Q I r ⟨a, vs, rfl, t, p.lst hr q1 z⟩
  · cases e
theorem cTuple : CallR X (.type "tuple") (rBi X.K .tuple) := by
  intro pins s σ H xs us Q I r hh
  obtain ⟨φ, h, ms, q, hr, rs, e, p⟩ := hh
  have e : tupleM h ms = some q := e
  unfold tupleM at e
  split at e
  · simp only [Option.map_eq_some_iff] at e
    obtain ⟨ys, e1, rfl⟩ := e
    obtain ⟨v, rfl, w⟩ := RVs.is1 rs
    obtain ⟨a, vs, rfl, t, q1, z⟩ := seq_of hr w e1
    refine call_tuple_of pins s σ H _ us Q I r ⟨a, vs, rfl, ?_⟩
    rcases t with t | t
    · exact .inl ⟨t, p.tup hr q1 z⟩
    · exact .inr ⟨t, p.now hr ⟨a, vs, rfl, t, q1, z⟩⟩
  · cases e
def rIM (K : Fra) : R2 := fun x y H Q => ∃ φ h a b r, HR K φ h H ∧ RV K φ H x a ∧ RV K φ H y b ∧ atM h a b = some r ∧ Post K φ H Q (r, h)
theorem ixM : IxR X (rIM X.K) := by
  intro value sl pins s σ H x y v u Q I rx ry hh hsub
  obtain ⟨φ, h, a, b, r, hr, ha, hb, e, q⟩ := hh
  unfold atM at e
  split at e
  · rename_i j
    cases hb
    split at e
    · rename_i z
      simp only [Option.map_eq_some_iff] at e
      obtain ⟨c, e1, rfl⟩ := e
      obtain ⟨rfl, hz⟩ := ha
      exact ix_str value sl pins s σ H _ _ v u Q I rx ry ⟨z, j, c, rfl, rfl, hz, e1, q.now hr ⟨rfl, by show 1 ≤ sizeLine; decide⟩⟩ hsub
    · simp only [Option.bind_eq_some_iff] at e
      obtain ⟨xs, e1, e2⟩ := e
      obtain ⟨p, vs, rfl, t, q1, z⟩ := seq_of hr ha e1
      have ex : ∃ w, atI vs j = some w ∧ RV X.K φ H w r := by
        unfold atI at e2 ⊢
        simp only [Option.bind_eq_some_iff] at e2 ⊢
        obtain ⟨k, e3, e4⟩ := e2
        obtain ⟨w, e5, e6⟩ := q1.get e4
        exact ⟨w, ⟨k, by rw [q1.len]; exact e3, e5⟩, e6⟩
      obtain ⟨w, e3, e4⟩ := ex
      rcases t with t | t
      · exact ix_list value sl pins s σ H _ _ v u Q I rx ry ⟨p, vs, j, w, rfl, rfl, t, e3, q.now hr e4⟩ hsub
      · exact ix_tup value sl pins s σ H _ _ v u Q I rx ry ⟨p, vs, j, w, rfl, rfl, t, e3, q.now hr e4⟩ hsub
  · cases e
def rSlM (K : Fra) : V → Option Int → Option Int → Hp → VK → Prop := fun x l u H Q => ∃ φ h a r, HR K φ h H ∧ RV K φ H x a ∧ sliceM h a l u = some r ∧ Post K φ H Q r
theorem cut_of {K : Fra} {φ : List Addr} {H : Hp} {xs : List MV} {vs : List V} (l u : Option Int) (r : RVs K φ H vs xs) : RVs K φ H (cutV vs l u) (cutM xs l u) := by
  unfold cutV cutM
  rw [r.len]
  exact (r.drop _).take _
theorem cutM_len (xs : List MV) (l u : Option Int) : (cutM xs l u).length ≤ xs.length := by
  unfold cutM
  rw [List.length_take, List.length_drop]
  omega
theorem slM : SlR X (rSlM X.K) := by
  intro pins s σ H x v vl vu lo hi sl Q I rx hs pl pu hh
  obtain ⟨φ, h, a, r, hr, ha, e, q⟩ := hh
  unfold sliceM at e
  split at e
  · rename_i xs
    cases e
    obtain ⟨p, vs, rfl, t, q1, z⟩ := ha
    have hz := Nat.le_trans (cutM_len xs lo hi) z
    refine sl_tupA pins s σ H _ v vl vu lo hi sl Q I rx hs pl pu ⟨p, vs, rfl, t, fun w => ?_, fun _ => q.tup hr (cut_of lo hi q1) hz⟩
    refine q.now hr ⟨p, vs, rfl, t, ?_, hz⟩
    have := cut_of lo hi q1
    have e2 : cutV vs lo hi = vs := by
      unfold cutV
      rw [w.1, w.2, List.drop_zero, Nat.sub_zero, List.take_length]
    rw [e2] at this
    exact this
  · rename_i xs
    cases e
    obtain ⟨p, vs, rfl, t, q1, z⟩ := ha
    exact sl_list pins s σ H _ v vl vu lo hi sl Q I rx hs pl pu ⟨p, vs, rfl, t.sq, q.lst hr (cut_of lo hi q1) (Nat.le_trans (cutM_len xs lo hi) z)⟩
  · rename_i n
    split at e
    · rename_i xs hx
      cases e
      obtain ⟨p, ep, rfl⟩ := ha
      obtain ⟨vs, q1, q2, q3⟩ := hr.lst ep hx
      exact sl_list pins s σ H _ v vl vu lo hi sl Q I rx hs pl pu ⟨p, vs, rfl, .of q1, q.lst hr (cut_of lo hi q2) (Nat.le_trans (cutM_len xs lo hi) q3)⟩
    · cases e
  · cases e
def rMe (K : Fra) (m : Me) : V → List V → Hp → VK → Prop := fun x vs H Q => ∃ φ h a ms r, HR K φ h H ∧ RV K φ H x a ∧ RVs K φ H vs ms ∧ methM m h a ms = some r ∧ Post K φ H Q r
theorem mAppend : MtM X "list.append" (rMe X.K .append) := by
  intro pins s σ H x xs v us Q I rx rs hh
  obtain ⟨φ, h, a, ms, r, hr, ha, hs, e, q⟩ := hh
  unfold methM at e
  split at e
  · rename_i n
    change appendM h n ms = some r at e
    unfold appendM at e
    split at e
    · rename_i m
      split at e
      · rename_i ys hy
        split at e
        · rename_i hl
          cases e
          obtain ⟨w, rfl, hw⟩ := RVs.is1 hs
          obtain ⟨p, ep, rfl⟩ := ha
          obtain ⟨vs, q1, q2, q3⟩ := hr.lst ep hy
          have e3 : (ys ++ [m]).length ≤ sizeLine := by rw [List.length_append]; exact hl
          exact mt_append pins s σ H _ _ v us Q I rx rs ⟨p, vs, w, rfl, rfl, q1, by rw [q2.len]; exact hl, q φ _ _ (stp_set ep) (hr.put ep (q2.app (.one hw)) e3) rfl⟩
        · cases e
      · cases e
    · cases e
  · cases e
theorem mPop : MtM X "list.pop" (rMe X.K .pop) := by
  intro pins s σ H x xs v us Q I rx rs hh
  obtain ⟨φ, h, a, ms, r, hr, ha, hs, e, q⟩ := hh
  unfold methM at e
  split at e
  · rename_i n
    change popM h n ms = some r at e
    unfold popM at e
    split at e
    · rename_i i
      split at e
      · rename_i ys hy
        split at e
        · rename_i hl
          simp only [Option.bind_eq_some_iff, Option.map_eq_some_iff] at e
          obtain ⟨k, e1, y, e2, rfl⟩ := e
          obtain ⟨w, rfl, hw⟩ := RVs.is1 hs
          cases hw
          obtain ⟨p, ep, rfl⟩ := ha
          obtain ⟨vs, q1, q2, q3⟩ := hr.lst ep hy
          obtain ⟨u, e3, e4⟩ := q2.get e2
          refine mt_popAt pins s σ H _ _ v us Q I rx rs ⟨p, vs, i, k, u, rfl, rfl, q1, hl.1, hl.2, by rw [q2.len]; exact (ixN_seq e1).1, e3, ?_⟩
          have hz : (ys.eraseIdx k).length ≤ sizeLine := Nat.le_trans (len_erase ys k) q3
          exact q φ _ _ (stp_set ep) (hr.put ep q2.erase hz) (RV.mono (stp_set ep) hr.dom _ _ e4)
        · cases e
      · cases e
    · split at e
      · rename_i ys hy
        simp only [Option.map_eq_some_iff] at e
        obtain ⟨y, e2, rfl⟩ := e
        cases hs
        obtain ⟨p, ep, rfl⟩ := ha
        obtain ⟨vs, q1, q2, q3⟩ := hr.lst ep hy
        obtain ⟨u, e3, e4⟩ := q2.get e2
        refine mt_pop pins s σ H _ _ v us Q I rx rs ⟨p, vs, u, rfl, rfl, q1, by rw [q2.len]; exact e3, ?_⟩
        exact q φ _ _ (stp_set ep) (hr.put ep q2.dropLast (by rw [List.length_dropLast]; omega)) (RV.mono (stp_set ep) hr.dom _ _ e4)
      · cases e
    · cases e
  · cases e
def rSetM (K : Fra) : TSet := fun o i v H Q => ∃ φ h a b c h', HR K φ h H ∧ RV K φ H o a ∧ RV K φ H i b ∧ RV K φ H v c ∧ setM h a b c = some h' ∧ ∀ H', Stp φ H φ H' → HR K φ h' H' → Q H'
theorem setR : PSet X (rSetM X.K) := by
  intro pins s σ H o i v ov iv u Q I ro ri rv hh
  obtain ⟨φ, h, a, b, c, h', hr, ha, hb, hc, e, q⟩ := hh
  unfold setM at e
  split at e
  · rename_i n j
    split at e
    · rename_i xs hx
      simp only [Option.map_eq_some_iff] at e
      obtain ⟨k, e1, rfl⟩ := e
      cases hb
      obtain ⟨p, ep, rfl⟩ := ha
      obtain ⟨vs, q1, q2, q3⟩ := hr.lst ep hx
      exact set_list pins s σ H _ _ v ov iv u Q I ro ri rv ⟨p, vs, j, k, rfl, rfl, q1, by rw [q2.len]; exact e1, q _ (stp_set ep) (hr.put ep (q2.set hc) (by rw [List.length_set]; exact q3))⟩
    · cases e
  · cases e
def tyS : TyN → String
  | .int => "int" | .bool => "bool" | .str => "str" | .tuple => "tuple" | .list => "list"
def kdB (a : String) (t : TyN) : Bool := match a, t with
  | "bool", .bool => true | "bool", .int => true | "int", .int => true | "str", .str => true | "tuple", .tuple => true | "list", .list => true | _, _ => false
theorem kd_non (t : TyN) : kitB "NoneType" (tyS t) = some false := by cases t <;> decide +kernel
theorem kd_bool (t : TyN) : kitB "bool" (tyS t) = some (decide (t = .bool ∨ t = .int)) := by cases t <;> decide +kernel
theorem kd_int (t : TyN) : kitB "int" (tyS t) = some (decide (t = .int)) := by cases t <;> decide +kernel
theorem kd_str (t : TyN) : kitB "str" (tyS t) = some (decide (t = .str)) := by cases t <;> decide +kernel
theorem kd_tup (t : TyN) : kitB "tuple" (tyS t) = some (decide (t = .tuple)) := by cases t <;> decide +kernel
theorem kd_lst (t : TyN) : kitB "list" (tyS t) = some (decide (t = .list)) := by cases t <;> decide +kernel
def rIsM (K : Fra) (t : TyN) : List V → Hp → VK → Prop := fun vs H Q => ∃ φ h m x c, HR K φ h H ∧ vs = [x, .ty (tyS t)] ∧ RV K φ H x m ∧ isiM h m t = some c ∧ Q (.bl c) H
theorem sqt_ty {K : Fra} {H : Hp} {a : Addr} {vs : List V} (h : SqT K H a vs) : TyX K H (.ref a) (.type "tuple") := by
  rcases h with (h | ⟨o, h⟩) | ⟨o, its, n, h1, h2, _⟩
  · exact .base (.tup h)
  · exact .fTuple h
  · exact .kTuple h1 h2
theorem frl_ty {K : Fra} {H : Hp} {a : Addr} {vs : List V} (h : FrL K H a vs) : TyX K H (.ref a) (.type "list") := by
  obtain ⟨o, h⟩ := h
  exact .base (.frz h)
theorem isiM_ref {h : MH} {n : Nat} {t : TyN} : isiM h (.ref n) t = match h[n]? with | some (.lst _) => some (decide (t = .list)) | none => none := by cases t <;> rfl
theorem cIsi (t : TyN) : CallR X (.builtin "isinstance") (rIsM X.K t) := by
  intro pins s σ H xs us Q I r hh
  obtain ⟨φ, h, m, x, c, hr, rfl, rx, e, q⟩ := hh
  have fin : ∀ (y : String) (b : Bool), TyX X.K H x (.type y) → kitB y (tyS t) = some b → c = b → wpAny (model X.prog X.w) X.A (call (.builtin "isinstance") us) (EP X pins σ Q) X.xe s := fun y b ty ek ec =>
    call_isi pins s σ H _ us Q I r ⟨x, .ty (tyS t), _, _, b, rfl, .ty _, ty, kit_ty ek, by rw [← ec]; exact q⟩
  cases m with
  | non => cases e; cases rx; exact fin _ _ (.base .non) (kd_non t) rfl
  | bl b => cases rx; cases t <;> cases e <;> exact fin _ _ (.base (.bl b)) (kd_bool _) (by decide)
  | int i => cases rx; cases t <;> cases e <;> exact fin _ _ (.base (.int i)) (kd_int _) (by decide)
  | str i => obtain ⟨rfl, _⟩ := rx; cases t <;> cases e <;> exact fin _ _ (.base (.str i)) (kd_str _) (by decide)
  | tup i => obtain ⟨a, vs, rfl, t1, _, _⟩ := rx; cases t <;> cases e <;> exact fin _ _ (sqt_ty t1) (kd_tup _) (by decide)
  | frl i => obtain ⟨a, vs, rfl, t1, _, _⟩ := rx; cases t <;> cases e <;> exact fin _ _ (frl_ty t1) (kd_lst _) (by decide)
  | ref n =>
    obtain ⟨a, ea, rfl⟩ := rx
    rw [isiM_ref] at e
    split at e
    · rename_i xs hx
      cases e
      obtain ⟨vs, q1, _⟩ := hr.lst ea hx
      exact fin _ _ (.base (.lst q1)) (kd_lst t) rfl
    · cases e
end
end MP
namespace MP
open PySem PySem.Spec PyProof.Rows L2
def WalkM (K : Fra) (φ : List Addr) (H : Hp) (J : It) (st : Its) : Prop := st.items.length ≤ sizeLine ∧ ∃ G Y, Walk J st.items.length G Y ∧
  (∀ φ2 h2 H2, Stp φ H φ2 H2 → HR K φ2 h2 H2 → st.still h2 → G H2) ∧
  (∀ i H2 x H3 φ2 h2, i < st.items.length → Stp φ H φ2 H2 → HR K φ2 h2 H2 → st.still h2 → Y i H2 x H3 → ∃ m, st.items[i]? = some m ∧ RV K φ2 H3 x m ∧ Stp φ2 H2 φ2 H3 ∧ HR K φ2 h2 H3)
def tI (K : Fra) (ev : Env → MH → Option (Its × MH)) : TI := fun σ H R' => ∃ φ h env q, Ew K φ h env σ H ∧ ev env h = some q ∧ ∀ φ' H' J, Stp φ H φ' H' → HR K φ' q.2 H' → WalkM K φ' H' J q.1 → R' J H'
section
variable {K : Fra} {φ φ' φ1 φ2 : List Addr} {H H' H1 H2 : Hp} {h h' h1 h2 : MH} {v : V} {m : MV} {env : Env} {σ : L2.St}
theorem walkM_tup {a : Addr} {vs : List V} {xs : List MV} (d : Dom φ H) (t : SqT K H a vs) (r : RVs K φ H vs xs) (z : xs.length ≤ sizeLine) : WalkM K φ H (Itt K a) ⟨xs, none⟩ := by
  have w : Walk (Itt K a) vs.length (fun H => SqT K H a vs) (YAt vs) := walk_tup
  rw [r.len] at w
  refine ⟨z, _, _, w, fun φ2 h2 H2 s hr _ => s.tup d t, fun i H2 x H3 φ2 h2 hi s hr _ y => ?_⟩
  obtain ⟨rfl, y⟩ := y
  obtain ⟨m, e1, e2⟩ := r.get' y
  exact ⟨m, e1, RV.mono s d _ _ e2, .refl, hr⟩
theorem walkM_frl {a : Addr} {vs : List V} {xs : List MV} (d : Dom φ H) (t : FrL K H a vs) (r : RVs K φ H vs xs) (z : xs.length ≤ sizeLine) : WalkM K φ H (Itl K a) ⟨xs, none⟩ := by
  have w : Walk (Itl K a) vs.length (fun H => SqL K H a vs) (YAt vs) := walk_list
  rw [r.len] at w
  refine ⟨z, _, _, w, fun φ2 h2 H2 s hr _ => ((s.wk d).frl t).sq, fun i H2 x H3 φ2 h2 hi s hr _ y => ?_⟩
  obtain ⟨rfl, y⟩ := y
  obtain ⟨m, e1, e2⟩ := r.get' y
  exact ⟨m, e1, RV.mono s d _ _ e2, .refl, hr⟩
theorem walkM_lst {a : Addr} {p : Nat} {xs : List MV} (ep : φ[p]? = some a) (z : xs.length ≤ sizeLine) : WalkM K φ H (Itl K a) ⟨xs, some (p, xs)⟩ := by
  have w : Walk (Itl K a) xs.length (fun H => ∃ vs, SqL K H a vs ∧ vs.length = xs.length) (fun i H x H' => H' = H ∧ ∀ vs, SqL K H a vs → vs[i]? = some x) :=
    ⟨fun i H hi ⟨vs, q, e⟩ => ⟨vs, vs[i]'(by rw [e]; exact hi), q, List.getElem?_eq_getElem _⟩, fun H ⟨vs, q, e⟩ => ⟨vs, q, by rw [e]; exact Nat.le_refl _⟩, fun _ _ _ _ _ _ y => y⟩
  refine ⟨z, _, _, w, fun φ2 h2 H2 s hr st => ?_, fun i H2 x H3 φ2 h2 hi s hr st y => ?_⟩
  · obtain ⟨vs, q1, q2, _⟩ := hr.lst (s.get ep) (show h2[p]? = some (.lst xs) from st)
    exact ⟨vs, .of q1, q2.len⟩
  · obtain ⟨rfl, y⟩ := y
    obtain ⟨vs, q1, q2, _⟩ := hr.lst (s.get ep) (show h2[p]? = some (.lst xs) from st)
    obtain ⟨m, e1, e2⟩ := q2.get' (y vs (.of q1))
    exact ⟨m, e1, e2, .refl, hr⟩
theorem walkM_rng {lo : Int} {n : Nat} (z : n ≤ sizeLine) : WalkM K φ H (Itr lo n) ⟨(List.range n).map fun i => .int (lo + ((i : Nat) : Int)), none⟩ := by
  have w : Walk (Itr lo n) n (fun _ => True) (YFn fun i => .int (lo + (i : Nat))) := walk_range
  have e : ((List.range n).map fun i => MV.int (lo + ((i : Nat) : Int))).length = n := by rw [List.length_map, List.length_range]
  refine ⟨by rw [e]; exact z, _, _, (by rw [e]; exact w), fun _ _ _ _ _ _ => True.intro, fun i H2 x H3 φ2 h2 hi s hr _ y => ?_⟩
  obtain ⟨rfl, rfl⟩ := y
  rw [e] at hi
  refine ⟨.int (lo + (i : Nat)), ?_, rfl, .refl, hr⟩
  show ((List.range n).map fun i => MV.int (lo + ((i : Nat) : Int)))[i]? = _
  rw [List.getElem?_map, List.getElem?_range hi]
  rfl
theorem enumI_at {xs : List MV} {i : Nat} {m : MV} (h : xs[i]? = some m) : (enumI xs)[i]? = some (.tup [.int (i : Int), m]) := by
  unfold enumI
  have hi := (List.getElem?_eq_some_iff.mp h).1
  rw [List.getElem?_map, List.getElem?_range hi]
  simp only [Option.map_some, List.getD_eq_getElem?_getD, h, Option.getD_some]
theorem walkM_enum {a : Addr} {vs : List V} {xs : List MV} (d : Dom φ H) (t : SqT K H a vs) (r : RVs K φ H vs xs) (z : xs.length ≤ sizeLine) : WalkM K φ H (IteT K a) ⟨enumI xs, none⟩ := by
  have hl : (enumI xs).length = xs.length := by simp [enumI]
  have w : Walk (IteT K a) (enumI xs).length (fun H => SqT K H a vs) (fun i H v H' => ∃ T y, v = .ref T ∧ H T = none ∧ H' = upd H T (.tup [.int (i : Nat), y]) ∧ vs[i]? = some y) :=
    ⟨fun i H hi q => ⟨vs, vs[i]'(by rw [r.len, ← hl]; exact hi), q, List.getElem?_eq_getElem _⟩, fun H q => ⟨vs, q, by rw [r.len, hl]⟩, fun i H x H' hi q ⟨T, y, e1, e2, e3, e4⟩ => ⟨T, y, e1, e2, e3, e4 vs q⟩⟩
  refine ⟨by rw [hl]; exact z, _, _, w, fun φ2 h2 H2 s hr _ => s.tup d t, fun i H2 x H3 φ2 h2 hi s hr _ y => ?_⟩
  obtain ⟨T, u, rfl, hT, rfl, hu⟩ := y
  obtain ⟨m, e1, e2⟩ := r.get' hu
  exact ⟨_, enumI_at e1, ⟨T, _, rfl, .of upd_same, ⟨.int (i : Nat), [u], rfl, rfl, u, [], rfl, RV.mono (stp_new hT) hr.dom _ _ (RV.mono s d _ _ e2), rfl⟩, by show 2 ≤ sizeLine; decide⟩, stp_new hT, hr.new hT⟩
theorem walkM_enumF {a : Addr} {vs : List V} {xs : List MV} (d : Dom φ H) (t : FrL K H a vs) (r : RVs K φ H vs xs) (z : xs.length ≤ sizeLine) : WalkM K φ H (Ite K a) ⟨enumI xs, none⟩ := by
  have hl : (enumI xs).length = xs.length := by simp [enumI]
  have hl2 : vs.length = (enumI xs).length := by rw [hl, r.len]
  refine ⟨by rw [hl]; exact z, _, _, (hl2 ▸ walk_enum (xs := vs)), fun φ2 h2 H2 s hr _ => (s.frl d t).sq, fun i H2 x H3 φ2 h2 hi s hr _ y => ?_⟩
  obtain ⟨T, x0, y0, rfl, hT, rfl, hx, hy⟩ := y
  cases hx
  obtain ⟨m, e1, e2⟩ := r.get' hy
  exact ⟨_, enumI_at e1, ⟨T, _, rfl, .of upd_same, ⟨.int (i : Nat), [y0], rfl, rfl, y0, [], rfl, RV.mono (stp_new hT) hr.dom _ _ (RV.mono s d _ _ e2), rfl⟩, by show 2 ≤ sizeLine; decide⟩, stp_new hT, hr.new hT⟩
theorem pi_en {X : Cx} {ex : Expr} {p pos tpos : Pos} {es : List Expr} {kk : Nat} {ev : Env → MH → Option (List MV × MH)} (hg : Gl X "enumerate") (hm : X.mg "enumerate" = none) (ha : PA X [ex] (tEs X.K ev)) (hs : starEach [ex] X.env = [(false, eval ex X.env)]) :
    PI X (.Tuple es kk tpos) (.Call (.Name "enumerate" p) [ex] [] pos) (tI X.K fun env h => (ev env h).bind fun r => itsG .enum h r) := by
  refine ⟨fun pins s σ H R' I hh => ?_⟩
  obtain ⟨φ, h, env, q, w, e, k⟩ := hh
  simp only [Option.bind_eq_some_iff, itsG] at e
  obtain ⟨r, e1, e2⟩ := e
  split at e2
  · rename_i v hv
    simp only [Option.map_eq_some_iff] at e2
    obtain ⟨st, e3, rfl⟩ := e2
    unfold itsM at e3
    simp only at e3
    split at e3
    · rename_i xs hx
      cases e3
      refine (pi_enumT hg hm ha hs).run pins s σ H R' I (goA w e1 fun φ1 H1 vs s1 w1 rv => ?_)
      rw [hv] at rv
      obtain ⟨u, rfl, ru⟩ := RVs.is1 rv
      obtain ⟨φ2, s2, hr2, rv2⟩ := gc_ok (r := (v, r.2)) w.hr s1 w1.hr ru
      have hx2 : (gc h (v, r.2)).1 = .tup xs := by injection hx
      rw [hx2] at rv2
      obtain ⟨a, vs, rfl, t, rr, z⟩ := rv2
      exact ⟨a, vs, rfl, t, k φ2 H1 _ s2 hr2 (walkM_enum hr2.dom t rr z)⟩
    · rename_i xs hx
      cases e3
      refine (pi_enum hg hm ha hs).run pins s σ H R' I (goA w e1 fun φ1 H1 vs s1 w1 rv => ?_)
      rw [hv] at rv
      obtain ⟨u, rfl, ru⟩ := RVs.is1 rv
      obtain ⟨φ2, s2, hr2, rv2⟩ := gc_ok (r := (v, r.2)) w.hr s1 w1.hr ru
      have hx2 : (gc h (v, r.2)).1 = .frl xs := by injection hx
      rw [hx2] at rv2
      obtain ⟨a, vs, rfl, t, rr, z⟩ := rv2
      exact ⟨a, vs, rfl, t.sq, k φ2 H1 _ s2 hr2 (walkM_enumF hr2.dom t rr z)⟩
    · cases e3
  · cases e2
theorem pi_ex {X : Cx} {tg ex : Expr} {ev : Env → MH → R} (he : PE X ex (tEv X.K ev)) : PI X tg ex (tI X.K fun env h => (ev env h).bind fun r => itsG .ex h ([r.1], r.2)) := by
  refine ⟨fun pins s σ H R' I hh => ?_⟩
  obtain ⟨φ, h, env, q, w, e, k⟩ := hh
  simp only [Option.bind_eq_some_iff, itsG, Option.map_eq_some_iff] at e
  obtain ⟨r, e1, st, e2, rfl⟩ := e
  unfold itsM at e2
  obtain ⟨r1, r2⟩ := r
  simp only at e2
  cases hv : (gc h (r1, r2)).1 with
  | tup xs =>
    rw [hv] at e2
    cases e2
    refine (pi_tup (tg := tg) he).run pins s σ H R' I (go w e1 fun φ1 H1 v s1 w1 rv => ?_)
    obtain ⟨φ2, s2, hr2, rv2⟩ := gc_ok w.hr s1 w1.hr rv
    rw [hv] at rv2
    obtain ⟨a, vs, rfl, t, rr, z⟩ := rv2
    exact ⟨a, rfl, ⟨vs, t⟩, k φ2 H1 _ s2 hr2 (walkM_tup hr2.dom t rr z)⟩
  | frl xs =>
    rw [hv] at e2
    cases e2
    refine (pi_list (tg := tg) he).run pins s σ H R' I (go w e1 fun φ1 H1 v s1 w1 rv => ?_)
    obtain ⟨φ2, s2, hr2, rv2⟩ := gc_ok w.hr s1 w1.hr rv
    rw [hv] at rv2
    obtain ⟨a, vs, rfl, t, rr, z⟩ := rv2
    exact ⟨a, rfl, ⟨vs, t.sq⟩, k φ2 H1 _ s2 hr2 (walkM_frl hr2.dom t rr z)⟩
  | ref p =>
    rw [hv] at e2
    simp only at e2
    split at e2
    · rename_i xs hx
      cases e2
      refine (pi_list (tg := tg) he).run pins s σ H R' I (go w e1 fun φ1 H1 v s1 w1 rv => ?_)
      obtain ⟨φ2, s2, hr2, rv2⟩ := gc_ok w.hr s1 w1.hr rv
      rw [hv] at rv2
      obtain ⟨a, ea, rfl⟩ := rv2
      obtain ⟨vs, q1, _, z⟩ := hr2.lst ea hx
      exact ⟨a, rfl, ⟨vs, .of q1⟩, k φ2 H1 _ s2 hr2 (walkM_lst ea z)⟩
    · cases e2
  | _ => rw [hv] at e2; cases e2
theorem pi_r1 {X : Cx} {tg a : Expr} {p pos : Pos} {ev : Env → MH → Option (List MV × MH)} (hg : Gl X "range") (hm : X.mg "range" = none) (ha : PA X [a] (tEs X.K ev)) (hs : starEach [a] X.env = [(false, eval a X.env)]) :
    PI X tg (.Call (.Name "range" p) [a] [] pos) (tI X.K fun env h => (ev env h).bind fun r => itsG .rng1 h r) := by
  refine ⟨fun pins s σ H R' I hh => ?_⟩
  obtain ⟨φ, h, env, q, w, e, k⟩ := hh
  simp only [Option.bind_eq_some_iff, itsG, Option.map_eq_some_iff] at e
  obtain ⟨r, e1, st, e2, rfl⟩ := e
  unfold itsM at e2
  simp only at e2
  split at e2
  · rename_i n hn
    split at e2
    · rename_i hz
      cases e2
      refine (pi_range1 (tg := tg) hg hm ha hs).run pins s σ H R' I (goA w e1 fun φ1 H1 v s1 w1 rv => ?_)
      rw [hn] at rv
      obtain ⟨u, rfl, ru⟩ := RVs.is1 rv
      cases ru
      obtain ⟨φ2, s2, hr2, _⟩ := gc_ok (v := .non) (r := (.non, r.2)) w.hr s1 w1.hr rfl
      have ez : ((List.range n.toNat).map fun i => MV.int ((i : Nat) : Int)) = (List.range n.toNat).map fun i => MV.int (0 + ((i : Nat) : Int)) := by
        congr 1; funext i; rw [Int.zero_add]
      refine ⟨n, rfl, hz.2, ?_, k φ2 H1 _ s2 hr2 ?_⟩
      · have := hz.1
        have e3 : (LIM : Int) < 2 ^ 62 := by decide
        omega
      · rw [ez]
        have hz1 : n ≤ 16777216 := hz.1
        exact walkM_rng (by show n.toNat ≤ 16777216; omega)
    · cases e2
  · cases e2
theorem pi_r2 {X : Cx} {tg a b : Expr} {p pos : Pos} {ev : Env → MH → Option (List MV × MH)} (hg : Gl X "range") (hm : X.mg "range" = none) (ha : PA X [a, b] (tEs X.K ev)) (hs : starEach [a, b] X.env = [(false, eval a X.env), (false, eval b X.env)]) (hs2 : starEach [b] X.env = [(false, eval b X.env)]) :
    PI X tg (.Call (.Name "range" p) [a, b] [] pos) (tI X.K fun env h => (ev env h).bind fun r => itsG .rng2 h r) := by
  refine ⟨fun pins s σ H R' I hh => ?_⟩
  obtain ⟨φ, h, env, q, w, e, k⟩ := hh
  simp only [Option.bind_eq_some_iff, itsG, Option.map_eq_some_iff] at e
  obtain ⟨r, e1, st, e2, rfl⟩ := e
  unfold itsM at e2
  simp only at e2
  split at e2
  · rename_i m n hn
    split at e2
    · rename_i hz
      cases e2
      refine (pi_range2 (tg := tg) hg hm ha hs hs2).run pins s σ H R' I (goA w e1 fun φ1 H1 v s1 w1 rv => ?_)
      rw [hn] at rv
      obtain ⟨u, u2, rfl, ru, ru2⟩ := RVs.is2 rv
      cases ru; cases ru2
      obtain ⟨φ2, s2, hr2, _⟩ := gc_ok (v := .non) (r := (.non, r.2)) w.hr s1 w1.hr rfl
      exact ⟨m, n, rfl, ⟨hz.1, hz.2.1, hz.2.2.1, hz.2.2.2.1⟩, k φ2 H1 _ s2 hr2 (walkM_rng hz.2.2.2.2)⟩
    · cases e2
  · cases e2
structure EnvR (K : Fra) (φ : List Addr) (H : Hp) (env : Env) (σ : L2.St) : Prop where
  len : env.length = σ.length
  at_ : ∀ (i : Nat) (m : MV), env[i]? = some (some m) → ∃ v, σ[i]? = some (some v) ∧ RV K φ H v m
theorem Ew.er (w : Ew K φ h env σ H) : EnvR K φ H env σ := ⟨w.len, w.at_⟩
theorem EnvR.ew (w : EnvR K φ H env σ) (hr : HR K φ h H) : Ew K φ h env σ H := ⟨hr, w.len, w.at_⟩
theorem EnvR.mono (w : EnvR K φ H env σ) (s : Wk φ H φ1 H1) : EnvR K φ1 H1 env σ := ⟨w.len, fun i m e => let ⟨v, e1, e2⟩ := w.at_ i m e; ⟨v, e1, RV.wk s m v e2⟩⟩
theorem EnvR.set (w : EnvR K φ H env σ) {i : Nat} (r : RV K φ H v m) : EnvR K φ H (env.set i (some m)) (σ.set i (some v)) := by
  refine ⟨by rw [List.length_set, List.length_set, w.len], fun j n e => ?_⟩
  rw [List.getElem?_set] at e ⊢
  split
  · rename_i hij
    rw [if_pos hij] at e
    split at e
    · rename_i hl
      cases e
      rw [if_pos (by rw [← w.len]; exact hl)]
      exact ⟨v, rfl, r⟩
    · cases e
  · rename_i hij
    rw [if_neg hij] at e
    exact w.at_ j n e
theorem EnvR.wipe (w : EnvR K φ H env σ) : ∀ vs : List Nat, EnvR K φ H (wipeM env vs) (L2.wipe σ vs)
  | [] => w
  | i :: is => by
    have ih := w.wipe is
    refine ⟨by show ((wipeM env is).set i none).length = ((L2.wipe σ is).set i none).length; rw [List.length_set, List.length_set, ih.len], fun j n e => ?_⟩
    have e : ((wipeM env is).set i none)[j]? = some (some n) := e
    show ∃ v, ((L2.wipe σ is).set i none)[j]? = some (some v) ∧ _
    rw [List.getElem?_set] at e ⊢
    split
    · rename_i hij
      rw [if_pos hij] at e
      split at e <;> cases e
    · rename_i hij
      rw [if_neg hij] at e
      exact ih.at_ j n e
mutual
def slotsT : Tg → List Nat
  | .nm i => [i]
  | .tup ts => slotsTs ts
def slotsTs : List Tg → List Nat
  | [] => []
  | t :: ts => slotsT t ++ slotsTs ts
end
/-- σ' is σ but for the slots in ns -/
def But (ns : List Nat) (σ σ' : L2.St) : Prop := σ'.length = σ.length ∧ ∀ j, j ∉ ns → σ'[j]? = σ[j]?
theorem But.wipe {ns vs : List Nat} {σ σ' : L2.St} (b : But ns σ σ') (hs : ∀ i ∈ ns, i ∈ vs) : L2.wipe σ' vs = L2.wipe σ vs := by
  apply List.ext_getElem?
  intro j
  by_cases hj : j ∈ vs
  · have gen : ∀ (τ : L2.St) (vs : List Nat), j ∈ vs → (L2.wipe τ vs)[j]? = if j < τ.length then some none else none := by
      intro τ vs
      induction vs with
      | nil => intro h; simp at h
      | cons v vs ih =>
        intro h
        show ((L2.wipe τ vs).set v none)[j]? = _
        rw [List.getElem?_set, wipe_length]
        by_cases hv : v = j
        · subst hv; simp
        · rw [if_neg hv]
          rcases List.mem_cons.mp h with e | e
          · exact absurd e.symm hv
          · exact ih e
    rw [gen _ _ hj, gen _ _ hj, b.1]
  · rw [wipe_out' hj, wipe_out' hj, b.2 j fun h => hj (hs j h)]
where wipe_out' {τ : L2.St} {j : Nat} : ∀ {vs : List Nat}, j ∉ vs → (L2.wipe τ vs)[j]? = τ[j]?
  | [], _ => rfl
  | v :: vs, h => by
    show ((L2.wipe τ vs).set v none)[j]? = _
    rw [List.getElem?_set_ne (fun e => h (by rw [e]; exact List.mem_cons_self)), wipe_out' fun e => h (List.mem_cons_of_mem _ e)]
def tTg (K : Fra) (t : Tg) : TG := fun v σ H Q => ∃ φ m env env', RV K φ H v m ∧ EnvR K φ H env σ ∧ bindT t m env = some env' ∧ ∀ σ', EnvR K φ H env' σ' → But (slotsT t) σ σ' → Q σ' H
def tTgs (K : Fra) (ts : List Tg) : TGs := fun vs σ H Q => ∃ φ ms env env', RVs K φ H vs ms ∧ EnvR K φ H env σ ∧ bindTs ts ms env = some env' ∧ ∀ σ', EnvR K φ H env' σ' → But (slotsTs ts) σ σ' → Q σ' H
theorem _root_.L2.PG.imp {X : Cx} {e : Expr} {t t' : TG} (h : PG X e t) (k : ∀ v σ H Q, t' v σ H Q → t v σ H Q) : PG X e t' := ⟨fun pins s σ H v u Q I r q => h.run pins s σ H v u Q I r (k _ _ _ _ q)⟩
theorem _root_.L2.PGs.imp {X : Cx} {e : List Expr} {t t' : TGs} (h : PGs X e t) (k : ∀ v σ H Q, t' v σ H Q → t v σ H Q) : PGs X e t' := ⟨fun pins s σ H v u Q I r q => h.run pins s σ H v u Q I r (k _ _ _ _ q)⟩
end
structure Cc where
  N : List Str
  sc : Scope
  fn : Str → Bool
  gen : Bool := false
/-- a generator's own scope: x its name, y the captured one -/
def isNm : Expr → Bool
  | .Name _ _ => true | _ => false
def gScope (c : Cc) (scope : Scope) (x y : Str) : Bool := decide (scope.kind = .function) && !scope.isCoroutine && scope.names.all (fun z => !decide (z.2 = .cell)) && decide (scope.names.lookup (".0" : Str) = some .local) && decide (scope.names.lookup x = some .local) &&
  decide (scope.names.lookup y = some .free) && scope.names.all (fun z => !decide (z.2 = .free) || decide (c.sc.names.lookup z.1 = some .cell) || decide (c.sc.names.lookup z.1 = some .free))
def isGl (sc : Scope) (x : Str) : Bool := decide (sc.names.lookup x = some .globalImplicit)
def isVis (sc : Scope) (x : Str) : Bool := decide (sc.names.lookup x = some .local) || decide (sc.names.lookup x = some .cell) || decide (sc.names.lookup x = some .free)
def okN (x : Str) : Bool := !(x == ("__debug__" : Str)) && !(x == ("__classdict__" : Str))
def okX : Expr → Bool
  | .Starred _ _ => false | .Set _ _ _ => false | .Slice _ _ _ _ => false | _ => true
def plainT : Expr → Bool
  | .UnaryOp _ _ _ => false | .BoolOp _ _ _ => false | .IfExp _ _ _ _ => false | .Compare _ _ _ _ => false | _ => true
def notComp : Expr → Bool
  | .ListComp _ _ _ _ => false | .SetComp _ _ _ _ => false | .DictComp _ _ _ _ _ => false | _ => true
def notSuper : Expr → Bool
  | .Call _ _ _ _ => false | _ => true
def notTup : Expr → Bool
  | .Tuple _ _ _ => false | .List _ _ => false | _ => true
/-- may be asked as a test -/
def tOk : Expr → Bool
  | .IfExp _ _ _ _ => false | _ => true
def biS : Bi → Str
  | .len => "len" | .int => "int" | .abs => "abs" | .max => "max" | .min => "min" | .sum => "sum" | .all => "all" | .any => "any" | .list => "list" | .tuple => "tuple"
def meS : Me → Str
  | .append => "append" | .pop => "pop"
def tyN : TyN → Str
  | .int => "int" | .bool => "bool" | .str => "str" | .tuple => "tuple" | .list => "list"
mutual
def chkT (c : Cc) (tx : Expr) (t : Tg) : Bool := match t with
  | .nm i => match tx with
    | .Name x _ => decide (c.N[i]? = some x) && (decide (c.sc.names.lookup x = some .local) || (decide (c.sc.names.lookup x = some .cell) && c.fn x))
    | _ => false
  | .tup ts => match tx with
    | .Tuple es _ _ => chkTs c es ts
    | _ => false
def chkTs (c : Cc) (txs : List Expr) (ts : List Tg) : Bool := match ts with
  | [] => match txs with
    | [] => true
    | _ => false
  | t :: ts => match txs with
    | tx :: txs => okX tx && chkT c tx t && chkTs c txs ts
    | [] => false
end
/-- range(..) -/
def chkR (c : Cc) (k : IK) (iter : Expr) (f : List Expr → Bool) : Bool := match k with
  | .ex => false
  | .enum => false
  | .rng1 => match iter with
    | .Call (.Name n _) [x] [] _ => decide (n = "range") && isGl c.sc n && f [x]
    | _ => false
  | .rng2 => match iter with
    | .Call (.Name n _) [x, y] [] _ => decide (n = "range") && isGl c.sc n && f [x, y]
    | _ => false
def chkI (c : Cc) (k : IK) (iter : Expr) (f : List Expr → Bool) : Bool := match k with
  | .ex => f [iter]
  | .enum => match iter with
    | .Call (.Name n _) [x] [] _ => decide (n = "enumerate") && isGl c.sc n && f [x]
    | _ => false
  | .rng1 => chkR c .rng1 iter f
  | .rng2 => chkR c .rng2 iter f
def kOk : IK → Tg → Bool
  | .enum, .nm _ => false
  | _, _ => true
def chkI2 (c : Cc) (k : IK) (t : Tg) (iter : Expr) (f : List Expr → Bool) : Bool := kOk k t && chkI c k iter f
theorem chkR_of {c : Cc} {iter : Expr} {k : IK} {f : List Expr → Bool} (h : chkR c k iter f = true) : (k = .rng1 ∧ ∃ p x p2, iter = .Call (.Name "range" p) [x] [] p2 ∧ isGl c.sc "range" = true ∧ f [x] = true) ∨
      (k = .rng2 ∧ ∃ p x y p2, iter = .Call (.Name "range" p) [x, y] [] p2 ∧ isGl c.sc "range" = true ∧ f [x, y] = true) := by
  cases k with
  | ex => cases h
  | enum => cases h
  | rng1 =>
    left
    refine ⟨rfl, ?_⟩
    simp only [chkR] at h
    split at h
    · simp only [Bool.and_eq_true, decide_eq_true_eq] at h
      obtain ⟨⟨rfl, h2⟩, h3⟩ := h
      exact ⟨_, _, _, rfl, h2, h3⟩
    · cases h
  | rng2 =>
    right
    refine ⟨rfl, ?_⟩
    simp only [chkR] at h
    split at h
    · simp only [Bool.and_eq_true, decide_eq_true_eq] at h
      obtain ⟨⟨rfl, h2⟩, h3⟩ := h
      exact ⟨_, _, _, _, rfl, h2, h3⟩
    · cases h
mutual
def chkE (g : Mod) (c : Cc) (ex : Expr) (e : E) : Bool := okX ex && match e with
  | .var i => match ex with
    | .Name x _ => decide (c.N[i]? = some x) && isVis c.sc x && okN x
    | _ => false
  | .non => match ex with
    | .Constant .none _ _ => true
    | _ => false
  | .bl b => match ex with
    | .Constant (.bool b') _ _ => b == b'
    | _ => false
  | .int i => match ex with
    | .Constant (.int i') _ _ => i == i'
    | _ => false
  | .str x => match ex with
    | .Constant (.str x') _ _ => decide (x = x') && decide (x.length ≤ 100000)
    | _ => false
  | .glob x => match ex with
    | .Name y _ => decide (x = y) && isGl c.sc x && okN x
    | _ => false
  | .tup es => match ex with
    | .Tuple xs _ _ => chkEs g c xs es && decide (xs.length ≤ 100000)
    | _ => false
  | .lst es => match ex with
    | .List xs _ => chkEs g c xs es && decide (xs.length ≤ 100000)
    | _ => false
  | .bin o a b => match ex with
    | .BinOp x op y _ => decide (op = bop o) && chkE g c x a && chkE g c y b
    | _ => false
  | .neg a => match ex with
    | .UnaryOp .USub x _ => chkE g c x a
    | _ => false
  | .cmp o a b => match ex with
    | .Compare x [op] [y] _ => decide (op = cop o) && chkE g c x a && chkE g c y b
    | _ => false
  | .chain o1 o2 a b d => match ex with
    | .Compare x [op, op'] [y, z] _ => decide (op = cop o1) && decide (op' = cop o2) && chkE g c x a && chkE g c y b && chkE g c z d
    | _ => false
  | .and a b => match ex with
    | .BoolOp .And [x, y] _ => tOk x && tOk y && chkE g c x a && chkE g c y b
    | .BoolOp .And (x :: y :: z :: r) p => tOk x && chkE g c x a && chkE g c (.BoolOp .And (y :: z :: r) p) b
    | _ => false
  | .or a b => match ex with
    | .BoolOp .Or [x, y] _ => tOk x && tOk y && chkE g c x a && chkE g c y b
    | .BoolOp .Or (x :: y :: z :: r) p => tOk x && chkE g c x a && chkE g c (.BoolOp .Or (y :: z :: r) p) b
    | _ => false
  | .not a => match ex with
    | .UnaryOp .Not x _ => tOk x && chkE g c x a
    | _ => false
  | .ife d a b => match ex with
    | .IfExp z x y _ => chkE g c z d && tOk z && chkE g c x a && chkE g c y b
    | _ => false
  | .idx a i => match ex with
    | .Subscript x y _ => chkE g c x a && chkE g c y i
    | _ => false
  | .slice a lo hi => match ex with
    | .Subscript x (.Slice l u none _) _ => chkE g c x a && (match l with | none => lo.isNon | some l => !lo.isNon && chkE g c l lo) && (match u with | none => hi.isNon | some u => !hi.isNon && chkE g c u hi)
    | _ => false
  | .call f es => match ex with
    | .Call (.Name x _) xs [] _ => decide (x = f) && isGl c.sc x && okN x && (g.fns.lookup f).isSome && chkEs g c xs es
    | _ => false
  | .bi f es => match ex with
    | .Call (.Name x _) xs [] _ => decide (x = biS f) && isGl c.sc x && !xs.isEmpty && chkEs g c xs es
    | _ => false
  | .isi a t => match ex with
    | .Call (.Name x _) [y, .Name z _] [] _ => decide (x = "isinstance") && isGl c.sc x && decide (z = tyN t) && isGl c.sc z && chkE g c y a
    | _ => false
  | .meth m o es => match ex with
    | .Call (.Attribute y x ap) xs [] p => decide (x = meS m) && notSuper y && (ap.endLine == p.line) && decide (xs.length < 20) && chkE g c y o && chkEs g c xs es
    | _ => false
  | .comp elt t k es cs own => match ex with
    | .ListComp ex2 [gen] scope _ => decide (gen.is_async = 0) && okX gen.iter && chkI2 c k t gen.iter (fun xs => chkEs g c xs es) && blkC c.N c.sc scope own && okX gen.target && chkT ⟨c.N, relS scope c.sc, fun x => scope.names.lookup x == some .cell, false⟩ gen.target t && (slotsT t).all (fun i => (own.map (·.2)).contains i) &&
        decide (gen.ifs.length = cs.length) && decide (cs.length ≤ 1) && gen.ifs.all tOk && chkEs g ⟨c.N, relS scope c.sc, fun x => scope.names.lookup x == some .cell, false⟩ gen.ifs cs && chkE g ⟨c.N, relS scope c.sc, fun x => scope.names.lookup x == some .cell, false⟩ ex2 elt
    | _ => false
  | .lrng k es => match ex with
    | .Call (.Name l _) [iter] [] _ => decide (l = "list") && isGl c.sc l && chkR c k iter (fun xs => chkEs g c xs es)
    | _ => false
  | .frz a => plainT ex && !a.isFrz && chkE g c ex a
  | .back a => match ex with
    | .Subscript x (.Slice none none (some (.UnaryOp .USub (.Constant (.int i) _ _) _)) _) _ => decide (i = 1) && chkE g c x a
    | _ => false
  | .lenset a => match ex with
    | .Call (.Name l _) [.Call (.Name s _) [y] [] _] [] _ => decide (l = "len") && decide (s = "set") && isGl c.sc l && isGl c.sc s && chkE g c y a
    | _ => false
  | .gflt i a => match ex with
    | .Call (.Name t _) [.GeneratorExp (.Name x _) [⟨.Name x2 _, iter, [.Compare (.Subscript (.Name x3 _) (.Constant (.int z) _ _) _) [.NotEq] [.Name y _] _], asy⟩] scope _] [] _ =>
      c.gen && decide (t = "tuple") && isGl c.sc t && decide (x2 = x) && decide (x3 = x) && decide (z = 0) && decide (asy = 0) && okN x && okN y && isVis c.sc y && decide (c.N[i]? = some y) && gScope c scope x y && isNm iter && chkE g c iter a
    | _ => false
def chkEs (g : Mod) (c : Cc) (exs : List Expr) (es : List E) : Bool := match es with
  | [] => match exs with
    | [] => true
    | _ => false
  | e :: es => match exs with
    | ex :: exs => chkE g c ex e && chkEs g c exs es
    | [] => false
end
end MP
namespace MP
open PySem PySem.Spec PyProof.Rows L2
def spM (K : Fra) (g : Mod) (k : Nat) (f : Str) : Sp := fun vs H Q _ => ∃ i φ h ms r, g.fns.lookup f = some i ∧ vs.length = i.np ∧ HR K φ h H ∧ RVs K φ H vs ms ∧ run g k f ms h = some r ∧ Post K φ H Q r
def bltNames : List Str := ["len", "int", "abs", "max", "min", "sum", "all", "any", "list", "tuple", "isinstance", "range", "bool", "str", "set", "enumerate"]
structure XR (g : Mod) (k : Nat) (X : Cx) (c : Cc) : Prop where
  hN : X.N = c.N
  nd : X.N.Nodup
  sc : X.env.scope = c.sc
  fn : X.fn = c.fn
  calm : X.calm = true
  room : Room k X.A
  xe : X.xe = fun _ _ => False
  fns : ∀ f i, g.fns.lookup f = some i → ∃ a fd ps, X.mg f = some (.ref a) ∧ PySem.W.keepIn X.K (.ref a) = true ∧ Binds X.K fd ps [] ∧ ps.length = i.np ∧ FnOk X.prog X.w X.K X.mg X.base CX0 k a fd ps (spM X.K g k f)
  cns : ∀ x m, g.cns.lookup x = some m → ∃ u w, X.mg x = some u ∧ RelV w u ∧ ∀ H, RV X.K [] H w m
  blt : ∀ x ∈ bltNames, X.mg x = none
  gen : c.gen = true → ∃ cc P, X.env.code = .ref cc ∧ GxR.TabB X.base X.mg cc P ∧ P ∈ tabsIn X.K
theorem XR.blk {g : Mod} {k : Nat} {X : Cx} {c : Cc} (r : XR g k X c) (s : Shared) (H : Hp) (scope : Scope) (C : Addr) (cl : List (Str × Addr)) (fp : List Addr) :
    XR g k (X.blk s H scope (compEnvC scope cl C X.env) fp) ⟨c.N, relS scope c.sc, fun x => scope.names.lookup x == some .cell, false⟩ where
  hN := r.hN
  nd := r.nd
  sc := by
    show relS scope X.env.scope = _
    rw [r.sc]
  fn := rfl
  calm := r.calm
  room := r.room
  xe := rfl
  fns := r.fns
  cns := r.cns
  blt := r.blt
  gen := fun z => nomatch z
def isBool : Expr → Bool
  | .BoolOp _ _ _ => true | _ => false
structure Sim (X : Cx) (ex : Expr) (ev : Env → MH → R) : Prop where
  pe : PE X ex (tEv X.K ev)
  pt : tOk ex = true → PT X ex (tTv X.K ev)
  pw : isBool ex = true → PW X ex (tTv X.K ev)
section
variable {X : Cx} {K : Fra} {φ φ' φ1 φ2 : List Addr} {H H' H1 H2 : Hp} {h h' h1 h2 : MH} {v : V} {m : MV} {env : Env} {σ : L2.St}
theorem goT {ev : Env → MH → R} {r : MV × MH} {c : Bool} {Q : Bool → Hp → Prop} (w : Ew K φ h env σ H) (e : ev env h = some r) (t : truth r.2 r.1 = some c) (k : ∀ φ1 H1, Stp φ H φ1 H1 → Ew K φ1 r.2 env σ H1 → Q c H1) : tTv K ev σ H Q :=
  ⟨φ, h, env, r, w, e, c, t, fun φ1 H1 s hr => k φ1 H1 s (w.step s hr)⟩
/-- from a value to a test -/
theorem Sim.of {ex : Expr} {ev : Env → MH → R} (h : PE X ex (tEv X.K ev)) (hp : plainT ex = true) : Sim X ex ev := by
  refine ⟨h, fun _ => ?_, fun hb => ?_⟩
  · refine (pt_truth h ?_).imp fun σ H Q hh => ?_
    · intro whole
      cases ex <;> first | rfl | cases hp
    · obtain ⟨φ, hh, env, r, w, e, c, t, k⟩ := hh
      exact go w e fun φ1 H1 v s w1 rv => ⟨c, tru_of w1.hr rv t, k φ1 H1 s w1.hr⟩
  · cases ex <;> first | (cases hb; done) | (cases hp; done)
theorem star_of {e : Expr} {es : List Expr} {env : PySem.Env} (h : okX e = true) : starEach (e :: es) env = (false, eval e env) :: starEach es env := by
  cases e <;> first | rfl | cases h
theorem plainIx_of {e : Expr} (h : okX e = true) : PlainIx e := by
  intro o i
  cases e <;> first | rfl | cases h
theorem behind_of {op : CmpOp} {e : Expr} (h : okX e = true) : behindInMarks op e = false := by
  cases e <;> first | rfl | cases h
theorem folded_of {e : Expr} {env : PySem.Env} (h : okX e = true) (x : Value) : foldedSetIterable e env x = pure x := by
  cases e <;> first | rfl | cases h
theorem base_of {e : Expr} {n : Str} {env : PySem.Env} {w : Sem Value} (h : notSuper e = true) : attributeBase e n env w = w := by
  cases e <;> first | rfl | cases h
theorem okE {g : Mod} {c : Cc} {ex : Expr} {e : E} (h : chkE g c ex e = true) : okX ex = true := by
  cases e <;> (simp only [chkE, Bool.and_eq_true] at h; exact h.1)
theorem okN_d {x : Str} (h : okN x = true) : (x == ("__debug__" : Str)) = false ∧ (x == ("__classdict__" : Str)) = false := by
  simp only [okN, Bool.and_eq_true, Bool.not_eq_true'] at h
  exact h
theorem plain_args {g : Mod} {c : Cc} {env : PySem.Env} {pos : Pos} : ∀ {xs : List Expr} {es : List E}, chkEs g c xs es = true → (backTo pos (starEach xs env)).any (·.1) = false
  | [], _, _ => rfl
  | x :: xs, [], h => by simp [chkEs] at h
  | x :: xs, e :: es, h => by
    simp only [chkEs, Bool.and_eq_true] at h
    rw [star_of (okE h.1)]
    have ih := plain_args (env := env) (pos := pos) h.2
    simpa [backTo] using ih
theorem all_plain {g : Mod} {c : Cc} {env : PySem.Env} {pos : Pos} : ∀ {xs : List Expr} {es : List E}, chkEs g c xs es = true → (backTo pos (starEach xs env)).all (fun x => !x.1) = true
  | [], _, _ => rfl
  | x :: xs, [], h => by simp [chkEs] at h
  | x :: xs, e :: es, h => by
    simp only [chkEs, Bool.and_eq_true] at h
    rw [star_of (okE h.1)]
    have ih := all_plain (env := env) (pos := pos) h.2
    simpa [backTo] using ih
theorem isVis_of {sc : Scope} {x : Str} (h : isVis sc x = true) : Vis sc x := by
  simp only [isVis, Bool.or_eq_true, decide_eq_true_eq] at h
  rcases h with (h | h) | h
  · exact .inl h
  · exact .inr (.inl h)
  · exact .inr (.inr h)
theorem XR.gl {g : Mod} {k : Nat} {c : Cc} (r : XR g k X c) {x : Str} (h : isGl c.sc x = true) : Gl X x := by
  show X.env.scope.names.lookup x = _
  rw [r.sc]
  exact of_decide_eq_true h
theorem XR.hu {g : Mod} {k : Nat} {c : Cc} (r : XR g k X c) : X.A.units + 65 < cLine := by
  have := r.room.un
  omega
theorem sim_tup {xs : List Expr} {k : Nat} {pos : Pos} {ev : Env → MH → Option (List MV × MH)} (h : PA X xs (tEs X.K ev)) (hl : ∀ env h r, ev env h = some r → r.1.length ≤ sizeLine) :
    PE X (.Tuple xs k pos) (tEv X.K fun env h => (ev env h).bind fun r => some (.tup r.1, r.2)) := by
  refine (pe_tup h).imp fun σ H Q hh => ?_
  obtain ⟨φ, hp, env, r, w, e, q⟩ := hh
  simp only [Option.bind_eq_some_iff] at e
  obtain ⟨rs, e1, e2⟩ := e
  cases e2
  refine goA w e1 fun φ1 H1 vs s w1 rv => ?_
  have hz := hl _ _ _ e1
  exact ⟨by rw [rv.len]; exact hz, (q.on s).tup w1.hr rv hz⟩
theorem sim_lst {xs : List Expr} {pos : Pos} {ev : Env → MH → Option (List MV × MH)} (h : PA X xs (tEs X.K ev)) (hl : ∀ env h r, ev env h = some r → r.1.length ≤ sizeLine) :
    PE X (.List xs pos) (tEv X.K fun env h => (ev env h).bind fun r => some (.ref r.2.length, r.2 ++ [.lst r.1])) := by
  refine (pe_lst h).imp fun σ H Q hh => ?_
  obtain ⟨φ, hp, env, r, w, e, q⟩ := hh
  simp only [Option.bind_eq_some_iff] at e
  obtain ⟨rs, e1, e2⟩ := e
  cases e2
  refine goA w e1 fun φ1 H1 vs s w1 rv => ?_
  have hz := hl _ _ _ e1
  exact ⟨by rw [rv.len]; exact hz, (q.on s).lst w1.hr rv hz⟩
theorem evEs_len {g : Mod} {cf : Str → List MV → MH → R} : ∀ {es : List E} {env : Env} {h : MH} {r : List MV × MH}, evEs g cf es env h = some r → r.1.length = es.length
  | [], env, h, r, e => by simp only [evEs] at e; cases e; rfl
  | x :: xs, env, h, r, e => by
    simp only [evEs, Option.bind_eq_some_iff, Option.map_eq_some_iff] at e
    obtain ⟨y, e1, q, e2, rfl⟩ := e
    exact congrArg (· + 1) (evEs_len e2)
theorem chkEs_len {g : Mod} {c : Cc} : ∀ {xs : List Expr} {es : List E}, chkEs g c xs es = true → xs.length = es.length
  | [], [], _ => rfl
  | [], _ :: _, h => by simp [chkEs] at h
  | _ :: _, [], h => by simp [chkEs] at h
  | x :: xs, e :: es, h => by
    simp only [chkEs, Bool.and_eq_true] at h
    exact congrArg (· + 1) (chkEs_len h.2)
theorem sim_op {a b : Expr} {pos : Pos} {o : BOp} {ea eb : Env → MH → R} (ha : PE X a (tEv X.K ea)) (hb : PE X b (tEv X.K eb)) :
    PE X (.BinOp a (bop o) b pos) (tEv X.K fun env h => (ea env h).bind fun x => (eb env x.2).bind fun y => binM o y.2 x.1 y.1) := by
  refine (pe_op (opB o) ha hb).imp fun σ H Q hh => ?_
  obtain ⟨φ, hp, env, r, w, e, q⟩ := hh
  simp only [Option.bind_eq_some_iff] at e
  obtain ⟨x, e1, y, e2, e3⟩ := e
  refine go w e1 fun φ1 H1 v1 s1 w1 r1 => go w1 e2 fun φ2 H2 v2 s2 w2 r2 => ?_
  exact ⟨φ2, y.2, x.1, y.1, r, w2.hr, RV.mono s2 w1.hr.dom _ _ r1, r2, e3, (q.on (s1.trans s2))⟩
theorem sim_cmp {g : Mod} {k : Nat} {c : Cc} (xr : XR g k X c) {a b : Expr} {pos : Pos} {o : COp} {ea eb : Env → MH → R} (ha : PE X a (tEv X.K ea)) (hb : PE X b (tEv X.K eb)) (hm : okX b = true) :
    Sim X (.Compare a [cop o] [b] pos) (fun env h => (ea env h).bind fun x => (eb env x.2).bind fun y => (cmpM o y.2 x.1 y.1).map fun c => (.bl c, y.2)) := by
  have core : ∀ {σ H Q r φ hp env}, Ew X.K φ hp env σ H → ((ea env hp).bind fun x => (eb env x.2).bind fun y => (cmpM o y.2 x.1 y.1).map fun c => (MV.bl c, y.2)) = some r →
      (∀ φ1 H1 c, Stp φ H φ1 H1 → HR X.K φ1 r.2 H1 → r.1 = .bl c → Q (V.bl c) H1) → tOp (rC X.K o) (tEv X.K ea) (tEv X.K eb) σ H Q := by
    intro σ H Q r φ hp env w e q
    simp only [Option.bind_eq_some_iff, Option.map_eq_some_iff] at e
    obtain ⟨x, e1, y, e2, c, e3, rfl⟩ := e
    refine go w e1 fun φ1 H1 v1 s1 w1 r1 => go w1 e2 fun φ2 H2 v2 s2 w2 r2 => ?_
    exact ⟨φ2, y.2, x.1, y.1, c, w2.hr, RV.mono s2 w1.hr.dom _ _ r1, r2, e3, q φ2 H2 c (s1.trans s2) w2.hr rfl⟩
  refine ⟨(pe_cmpR (opC xr.hu o) ha hb (behind_of hm)).imp fun σ H Q hh => ?_, fun _ => (pt_cmpR (opC xr.hu o) ha hb (behind_of hm)).imp fun σ H Q hh => ?_, fun z => nomatch z⟩
  · obtain ⟨φ, hp, env, r, w, e, q⟩ := hh
    exact core w e fun φ1 H1 c s hr er => q φ1 H1 _ s hr (by rw [er]; rfl)
  · obtain ⟨φ, hp, env, r, w, e, c, t, q⟩ := hh
    refine core w e fun φ1 H1 c' s hr er => ⟨c', rfl, ?_⟩
    rw [er] at t
    cases t
    exact q φ1 H1 s hr
theorem sim_chain {g : Mod} {k : Nat} {c : Cc} (xr : XR g k X c) {a b d : Expr} {pos : Pos} {o o' : COp} {ea eb ed : Env → MH → R} (ha : PE X a (tEv X.K ea)) (hb : PE X b (tEv X.K eb)) (hd : PE X d (tEv X.K ed)) (hm : okX d = true) :
    Sim X (.Compare a [cop o, cop o'] [b, d] pos) (fun env h => (ea env h).bind fun x => (eb env x.2).bind fun y => (cmpM o y.2 x.1 y.1).bind fun c1 =>
      if c1 then (ed env y.2).bind fun z => (cmpM o' z.2 y.1 z.1).map fun c2 => (.bl c2, z.2) else some (.bl false, y.2)) := by
  have hl : lastMarks [cop o, cop o'] [b, d] = false := behind_of hm
  have core : ∀ {σ H Q r φ hp env}, Ew X.K φ hp env σ H → ((ea env hp).bind fun x => (eb env x.2).bind fun y => (cmpM o y.2 x.1 y.1).bind fun c1 =>
      if c1 then (ed env y.2).bind fun z => (cmpM o' z.2 y.1 z.1).map fun c2 => (MV.bl c2, z.2) else some (.bl false, y.2)) = some r →
      (∀ φ1 H1 c, Stp φ H φ1 H1 → HR X.K φ1 r.2 H1 → r.1 = .bl c → Q (V.bl c) H1) → tChain (rC X.K o) (rC X.K o') (tEv X.K ea) (tEv X.K eb) (tEv X.K ed) σ H Q := by
    intro σ H Q r φ hp env w e q
    simp only [Option.bind_eq_some_iff] at e
    obtain ⟨x, e1, y, e2, c, e3, e4⟩ := e
    refine go w e1 fun φ1 H1 v1 s1 w1 r1 => go w1 e2 fun φ2 H2 v2 s2 w2 r2 => ?_
    refine ⟨φ2, y.2, x.1, y.1, c, w2.hr, RV.mono s2 w1.hr.dom _ _ r1, r2, e3, c, rfl, ?_⟩
    cases c with
    | false =>
      rw [if_neg Bool.false_ne_true] at e4
      cases e4
      rw [if_neg Bool.false_ne_true]
      exact q φ2 H2 false (s1.trans s2) w2.hr rfl
    | true =>
      rw [if_pos rfl] at e4
      simp only [Option.bind_eq_some_iff, Option.map_eq_some_iff] at e4
      obtain ⟨z, e5, c2, e6, rfl⟩ := e4
      rw [if_pos rfl]
      refine go w2 e5 fun φ3 H3 v3 s3 w3 r3 => ?_
      exact ⟨φ3, z.2, y.1, z.1, c2, w3.hr, RV.mono s3 w2.hr.dom _ _ r2, r3, e6, q φ3 H3 c2 ((s1.trans s2).trans s3) w3.hr rfl⟩
  refine ⟨(pe_chain (opC xr.hu o) (opC xr.hu o') ha hb hd hl).imp fun σ H Q hh => ?_, fun _ => (pt_chain (opC xr.hu o) (opC xr.hu o') ha hb hd hl).imp fun σ H Q hh => ?_, fun z => nomatch z⟩
  · obtain ⟨φ, hp, env, r, w, e, q⟩ := hh
    exact core w e fun φ1 H1 c s hr er => q φ1 H1 _ s hr (by rw [er]; rfl)
  · obtain ⟨φ, hp, env, r, w, e, c, t, q⟩ := hh
    refine core w e fun φ1 H1 c' s hr er => ⟨c', rfl, ?_⟩
    rw [er] at t
    cases t
    exact q φ1 H1 s hr
noncomputable def andF (ea eb : Env → MH → R) : Env → MH → R := fun env h => (ea env h).bind fun x => (truth x.2 x.1).bind fun c => if c then eb env x.2 else some x
noncomputable def orF (ea eb : Env → MH → R) : Env → MH → R := fun env h => (ea env h).bind fun x => (truth x.2 x.1).bind fun c => if c then some x else eb env x.2
theorem and_pe {a b : Expr} {r : List Expr} {pos : Pos} {ea eb : Env → MH → R} (ha : PE X a (tEv X.K ea)) (hb : PE X (.BoolOp .And (b :: r) pos) (tEv X.K eb)) : PE X (.BoolOp .And (a :: b :: r) pos) (tEv X.K (andF ea eb)) := by
  refine (pe_andT ha hb).imp fun σ H Q hh => ?_
  obtain ⟨φ, hp, env, r, w, e, q⟩ := hh
  simp only [andF, Option.bind_eq_some_iff] at e
  obtain ⟨x, e1, c, e2, e3⟩ := e
  refine go w e1 fun φ1 H1 v1 s1 w1 r1 => ⟨c, tru_of w1.hr r1 e2, ?_⟩
  cases c with
  | true =>
    rw [if_pos rfl] at e3
    rw [if_pos rfl]
    exact go w1 e3 fun φ2 H2 v2 s2 w2 r2 => q φ2 H2 v2 (s1.trans s2) w2.hr r2
  | false =>
    rw [if_neg Bool.false_ne_true] at e3
    cases e3
    rw [if_neg Bool.false_ne_true]
    exact q φ1 H1 v1 s1 w1.hr r1
theorem or_pe {a b : Expr} {r : List Expr} {pos : Pos} {ea eb : Env → MH → R} (ha : PE X a (tEv X.K ea)) (hb : PE X (.BoolOp .Or (b :: r) pos) (tEv X.K eb)) : PE X (.BoolOp .Or (a :: b :: r) pos) (tEv X.K (orF ea eb)) := by
  refine (pe_orT ha hb).imp fun σ H Q hh => ?_
  obtain ⟨φ, hp, env, r, w, e, q⟩ := hh
  simp only [orF, Option.bind_eq_some_iff] at e
  obtain ⟨x, e1, c, e2, e3⟩ := e
  refine go w e1 fun φ1 H1 v1 s1 w1 r1 => ⟨c, tru_of w1.hr r1 e2, ?_⟩
  cases c with
  | false =>
    rw [if_neg Bool.false_ne_true] at e3
    rw [if_neg Bool.false_ne_true]
    exact go w1 e3 fun φ2 H2 v2 s2 w2 r2 => q φ2 H2 v2 (s1.trans s2) w2.hr r2
  | true =>
    rw [if_pos rfl] at e3
    cases e3
    rw [if_pos rfl]
    exact q φ1 H1 v1 s1 w1.hr r1
theorem and_pw {a b : Expr} {r : List Expr} {pos : Pos} {ea eb : Env → MH → R} (ha : PT X a (tTv X.K ea)) (hb : PW X (.BoolOp .And (b :: r) pos) (tTv X.K eb)) : PW X (.BoolOp .And (a :: b :: r) pos) (tTv X.K (andF ea eb)) := by
  refine (pw_and ha hb).imp fun σ H Q hh => ?_
  obtain ⟨φ, hp, env, r, w, e, c, t, q⟩ := hh
  simp only [andF, Option.bind_eq_some_iff] at e
  obtain ⟨x, e1, c1, e2, e3⟩ := e
  refine goT w e1 e2 fun φ1 H1 s1 w1 => ?_
  cases c1 with
  | true =>
    rw [if_pos rfl] at e3
    rw [if_pos rfl]
    exact goT w1 e3 t fun φ2 H2 s2 w2 => q φ2 H2 (s1.trans s2) w2.hr
  | false =>
    rw [if_neg Bool.false_ne_true] at e3
    cases e3
    rw [e2] at t
    cases t
    rw [if_neg Bool.false_ne_true]
    exact q φ1 H1 s1 w1.hr
theorem or_pw {a b : Expr} {r : List Expr} {pos : Pos} {ea eb : Env → MH → R} (ha : PT X a (tTv X.K ea)) (hb : PW X (.BoolOp .Or (b :: r) pos) (tTv X.K eb)) : PW X (.BoolOp .Or (a :: b :: r) pos) (tTv X.K (orF ea eb)) := by
  refine (pw_or ha hb).imp fun σ H Q hh => ?_
  obtain ⟨φ, hp, env, r, w, e, c, t, q⟩ := hh
  simp only [orF, Option.bind_eq_some_iff] at e
  obtain ⟨x, e1, c1, e2, e3⟩ := e
  refine goT w e1 e2 fun φ1 H1 s1 w1 => ?_
  cases c1 with
  | false =>
    rw [if_neg Bool.false_ne_true] at e3
    rw [if_neg Bool.false_ne_true]
    exact goT w1 e3 t fun φ2 H2 s2 w2 => q φ2 H2 (s1.trans s2) w2.hr
  | true =>
    rw [if_pos rfl] at e3
    cases e3
    rw [e2] at t
    cases t
    rw [if_pos rfl]
    exact q φ1 H1 s1 w1.hr
end
end MP
namespace MP
open PySem PySem.Spec PyProof.Rows L2
section
variable {X : Cx} {pins : List (Addr × Obj)} {σ : L2.St} {H : Hp} {s : Shared}
/-- the generator's code object: found in the table, or made and put there -/
theorem code_step {c P : Addr} {pos : Pos} {scope : Scope} {ps : Array Value} {o : Obj} {R : Value → Shared → Prop} (TB : GxR.TabB X.base X.mg c P) (hcode : X.env.code = .ref c) (I : Inv X pins σ H s) (hP : H P = some (.tbl ps)) (ht : TriplesOk ps.toList)
    (k : ∀ (code : Value) (h3 : Heap) (tk : Nat) (qs : Array Value), Heap.ExtBut P (s.heap.push o) h3 → (s.heap.push o).objs.size ≤ h3.objs.size → h3.get? P = some { cls := .none, data := .fields qs } → (∃ more, qs = ps ++ more) → TriplesOk qs.toList → R code { s with heap := h3, toks := tk }) :
    wpAny (model X.prog X.w) X.A (genexprCode X.env pos (X.env.qual ++ "<genexpr>") scope) R X.xe { s with heap := s.heap.push o } := by
  have e1 : (s.heap.push o).get? P = some { cls := .none, data := .fields ps } := Heap.get?_push_of_some _ (I.hok P _ hP)
  have e2 : PySem.W.CodeHd (s.heap.push o) c P := TB.code.keeps fun b u e => Heap.get?_push_of_some _ (I.bk b u e)
  cases hf : codeAmong pos ps.toList with
  | none =>
    refine wpAny_genexprCodeX hcode (e2.code e1 ht) (e2.tab e1) hf fun c' h' tk hx hge hlt hc _ hT _ => ?_
    obtain ⟨_, _, _, _, _, _, _, _, _, _, _, _, _, _, _, _, _, _, _, htr, _⟩ := hc
    exact k _ h' tk _ hx (Nat.le_trans hge (Nat.le_of_lt hlt)) hT.2 ⟨_, rfl⟩ htr
  | some cv =>
    refine wpAny_genexprCode_hit hcode (e2.code e1 ht) hf ?_
    exact k cv _ s.toks ps (Heap.ExtBut.refl _ _) (Nat.le_refl _) e1 ⟨#[], by simp⟩ ht
/-- where the items of a generator over a tuple stand -/
def Items (s1 s2 : Shared) (P : Addr) : Prop := ∀ b o, b ≠ P → s1.heap.get? b = some o → s2.heap.get? b = some o
/-- the test's truth at each item -/
def TestOk (X : Cx) (scope : Scope) (x : Str) (cond : Expr) (P : Addr) (vs : List V) (pz : Nat → Bool) (s1 : Shared) : Prop :=
  ∀ (ce : PySem.Env) (A' : Around) (E' : Value → Shared → Prop) (i : Nat) (v : V) (u : Value) (s2 : Shared) (m : Str → Option Value), ce.scope = scope → ce.cells = cloFrom X.env.cells scope.names [] → vs[i]? = some v → RelV v u → s2.heap.Ns ce.locals m → m x = some u → Items s1 s2 P →
    wpAny (model X.prog X.w) A' (PySem.isTrue cond ce (eval cond ce)) (fun y s3 => y = pz i ∧ Keeps s2 s3) E' s2
theorem gen_tup {c P : Addr} {cond iter : Expr} {x : Str} {p0 p1 gpos : Pos} {scope : Scope} {te : TE} {k : Nat} {Q : Value → Shared → Prop} {R : List V → Hp → Prop}
    (hr : Room k X.A) (TB : GxR.TabB X.base X.mg c P) (hcode : X.env.code = .ref c) (S : GxR.GenS X.env scope x) (hd : (x == ("__debug__" : Str)) = false) (hi : PE X iter te) (hs : ∀ v, genFold iter X.env v = pure v) (I : Inv X pins σ H s)
    (h : te σ H fun v H1 => ∃ a vs, v = .ref a ∧ SqT X.K H1 a vs ∧ GxR.TabG H1 P ∧ R vs H1)
    (hc : ∀ vs H1 s1, Inv X pins σ H1 s1 → GxR.TabG H1 P → R vs H1 → ∃ pz, TestOk X scope x cond P vs pz s1 ∧
      ∀ g s5, (∃ (fp wr : List Addr) (G : Array GenState → Array GenState → Prop) (St : Nat → Shared → Prop) (its : List Value), Vals vs its ∧ WalksS X.prog X.w X.A.in1.in1.in1 g fp wr G (passing pz its.length 0).length (fun j y => ∃ i, (passing pz its.length 0)[j]? = some i ∧ its[i]? = some y) St ∧ St 0 s5 ∧ (∀ b ∈ fp, b < s5.heap.objs.size) ∧ g ∈ fp ∧ (∀ i s9, St i s9 → s9.TypeIs (.ref g) "generator") ∧
        ∀ s', Moved wr G s5 s' → ∃ H2, GxR.Tabbed P H1 H2 ∧ Inv X pins σ H2 s') → Q (.ref g) s5) :
    wpAny (model X.prog X.w) X.A (eval (.GeneratorExp (.Name x p0) [⟨.Name x p1, iter, [cond], 0⟩] scope gpos) X.env) Q X.xe s := by
  refine wpAny_GeneratorExp_walksQ hr.hd S.co (closure_ok S.free) S.cell S.dot S.loc S.kind (by have := hr.dp; omega) ?_ hs
  refine thn (hi.run pins s σ H _ I h) fun w s1 ⟨v, H1, J, r, a, vs, ev, ha, ⟨ps, hP, ht⟩, hR⟩ => ?_
  subst ev
  obtain rfl : w = Value.ref a := r
  obtain ⟨pz, tst, fin⟩ := hc vs H1 s1 J ⟨ps, hP, ht⟩ hR
  obtain ⟨its, rv, pt, _⟩ := J.tuple ha
  have hPs : s1.heap.get? P = some { cls := .none, data := .fields ps } := J.hok P _ hP
  have hPlt : P < s1.heap.objs.size := Heap.lt_size hPs
  have haP : a ≠ P := fun z => by
    obtain ⟨_, e, hc1, _, hd1⟩ := _root_.id pt
    rw [z, hPs] at e; cases e; cases hd1
  have halt : a < s1.heap.objs.size := let ⟨_, e, _⟩ := _root_.id pt; Heap.lt_size e
  refine wpAny_pyIter_tuple pt ⟨J.nolimit.push _, code_step TB hcode J hP ht fun code h3 tk qs hx hsz hP3 hmore ht3 => ?_⟩
  obtain ⟨bm, ob, b1, b2, b3, b4, b5, b6, b7, b8⟩ := TB.bm
  have hcP : cStatics ≠ P := fun e => by
    obtain ⟨_, hns, _⟩ := J.nolimit
    obtain ⟨o', es, ep, ho, hd', _⟩ := hns
    rw [e, hPs] at ho; cases ho; cases hd'
  have hclt : cStatics < s1.heap.objs.size := let ⟨_, hn, _⟩ := J.nolimit; hn.lt
  have z2 : (s1.heap.push { cls := .type "tuple_iterator", data := .fields #[.ref a, .int 0 0] }).objs.size = s1.heap.objs.size + 1 := Heap.size_push ..
  have old : ∀ b u, b ≠ P → s1.heap.get? b = some u → h3.get? b = some u := fun b u hb e => hx b u hb (Heap.get?_push_of_some _ e)
  refine wpAny_builtinsFor (m := X.mg) (by rw [J.ok.glob]; exact ((J.mod.glob.keeps J.bk).push _).extBut hx TB.gP) b1 b2 (old _ _ b4 (J.bk _ _ b5)) b6 b7 b8 ?_
  have pt3 : h3.IsTuple a its.toArray := by
    obtain ⟨ob, e, q⟩ := _root_.id pt
    exact ⟨ob, old _ _ haP e, q⟩
  have it3 : h3.IsTupleIter s1.heap.objs.size a 0 := ⟨_, hx _ _ (Nat.ne_of_gt hPlt) (Heap.get?_push_size _ rfl), rfl, rfl⟩
  refine ⟨s1.heap.objs.size, [s1.heap.objs.size, a], [s1.heap.objs.size], its.toArray.size, fun i u => its.toArray[i]? = some u, fun i h => h.IsTupleIter s1.heap.objs.size a i ∧ h.IsTuple a its.toArray, pz, fun i u => its[i]? = some u, rfl, fun A' hA => Walks.tuple hA _ _ (Nat.ne_of_lt halt) _, ⟨it3, pt3⟩, ?_, (J.nolimit.push _).extBut hx hcP, ?_, ?_, ?_⟩
  · intro b hb
    rcases List.mem_cons.mp hb with rfl | hb
    · show s1.heap.objs.size < h3.objs.size
      omega
    · rw [List.mem_singleton.mp hb]
      show a < h3.objs.size
      exact Nat.lt_of_lt_of_le halt (by omega)
  · intro z
    exact Nat.ne_of_lt hclt (List.mem_singleton.mp z)
  · intro href hh
    have item : ∀ {i : Nat} {u : Value}, its.toArray[i]? = some u → ∃ v, vs[i]? = some v ∧ RelV v u := fun {i u} e => by
      have e2 : its[i]? = some u := by simpa using e
      have hl := rv.length
      have hi2 : i < vs.length := by rw [hl]; exact (List.getElem?_eq_some_iff.mp e2).1
      obtain ⟨u2, e3, r3⟩ := rv.get (List.getElem?_eq_getElem hi2)
      rw [e2] at e3; cases e3
      exact ⟨_, List.getElem?_eq_getElem hi2, r3⟩
    refine ⟨fun A' E' i u s2 m hA hu hn hm hk => ?_, fun A' E' i u s2 m hA hu hp hn hm hk => ?_⟩
    · obtain ⟨v, hv, rr⟩ := item hu
      simp only [List.forIn_cons, List.forIn_nil, if_true, bind_assoc, pure_bind]
      have it : Items s1 s2 P := fun b o hb e => by
        have hl := Heap.lt_size e
        refine hk b (List.mem_range.mpr (Nat.lt_of_lt_of_le hl (by show s1.heap.objs.size ≤ h3.objs.size; omega))) (fun z => ?_) o (hh b o (old b o hb e))
        rw [List.mem_singleton.mp z] at hl
        exact Nat.lt_irrefl _ hl
      exact wpAny_bind (wpAny_mono (tst _ A' E' i v u s2 m rfl rfl hv rr hn hm it) (fun y s3 q => wpAny_pure q) fun _ _ e => e)
    · refine wpAny_Name (wpAny_loadName_local S.kind (show scope.names.lookup x = some .local from S.loc) hn hm ?_) hd
      exact ⟨by simpa using hu, GxR.keeps_refl _⟩
  · intro g h5 tk5 gs hgb hag h5s hk5 W hat
    have hn5 : its.toArray.size = its.length := by rw [List.size_toArray]
    rw [hn5] at W hat
    refine fin g _ ⟨_, _, _, _, its, rv, W.in4_3, hat, ?_, List.mem_cons_self, fun i s9 h9 => ?_, fun s' hm => ?_⟩
    · intro b hb
      show b < h5.objs.size
      have e5 : h5.objs.size = g + 1 := h5s
      have e6 : h3.objs.size < g := hag
      rcases List.mem_cons.mp hb with rfl | hb
      · rw [e5]; exact Nat.lt_succ_self _
      · rcases List.mem_cons.mp hb with rfl | hb
        · show h3.objs.size < h5.objs.size
          omega
        · have e7 : b < h3.objs.size := List.mem_range.mp hb
          exact Nat.lt_trans e7 (by omega)
    · exact h9.1.typeIs
    · obtain ⟨more, rfl⟩ := hmore
      have off : ∀ b u, s1.heap.get? b = some u → b ∉ h3.objs.size :: [s1.heap.objs.size] := fun b u e hb => by
        have hl := Heap.lt_size e
        rcases List.mem_cons.mp hb with rfl | hb
        · have : h3.objs.size < s1.heap.objs.size := hl
          omega
        · rw [List.mem_singleton.mp hb] at hl
          exact Nat.lt_irrefl _ hl
      have J2 := GxR.inv_tab (more := more) (h' := s'.heap) (g' := s'.gens) (d' := s'.drawn) (t' := s'.toks) J hP (fun b u hb e => hm.heap b u (off b u e) (hk5 b u (old b u hb e)))
        (hm.heap P _ (off P _ hPs) (hk5 P _ hP3)) (AllBare.movedS (J.bare.push hgb) hm)
      rw [GxR.sh_eta s1 s' hm.os] at J2
      exact ⟨_, ⟨⟨_, upd_same, ht3⟩, fun b hb => upd_ne hb⟩, J2⟩
end
end MP
namespace MP
open PySem PySem.Spec PyProof.Rows L2
section
variable {X : Cx} {pins : List (Addr × Obj)} {σ : L2.St} {H : Hp} {s : Shared}
abbrev gCond (x y : Str) (j : Nat) (p1 p2 p3 p4 p5 : Pos) : Expr := .Compare (.Subscript (.Name x p1) (.Constant (.int 0) j p2) p3) [.NotEq] [.Name y p4] p5
theorem test_ok {scope : Scope} {x y : Str} {j i : Nat} {p1 p2 p3 p4 p5 : Pos} {P : Addr} {vs : List V} {ks : List Int} {t : Int} {ps : Array Value}
    (hk : scope.kind = .function) (hx : scope.names.lookup x = some .local) (hdx : (x == ("__debug__" : Str)) = false) (hy : scope.names.lookup y = some .free) (hdy : (y == ("__debug__" : Str)) = false) (hcy : (y == ("__classdict__" : Str)) = false)
    (hcl : ∀ c, X.env.cells.lookup y = some c → (cloFrom X.env.cells scope.names []).lookup y = some c) (hN : X.N[i]? = some y) (hv : Vis X.env.scope y) (hloc : X.env.scope.names.lookup y = some .cell ∨ X.env.scope.names.lookup y = some .free)
    (I : Inv X pins σ H s) (hP : H P = some (.tbl ps)) (hl : ks.length = vs.length) (hks : ∀ (n : Nat) (u : V) (k : Int), vs[n]? = some u → ks[n]? = some k → ∃ (b : Addr) (ws : List V), u = V.ref b ∧ SqT X.K H b (V.int k :: ws)) (hσ : σ[i]? = some (some (.int t))) :
    TestOk X scope x (gCond x y j p1 p2 p3 p4 p5) P vs (fun n => ks.getD n 0 != t) s := by
  have hPs : s.heap.get? P = some { cls := .none, data := .fields ps } := I.hok P _ hP
  obtain ⟨m0, hns, hlook⟩ := I.loc
  obtain ⟨w, hw, hlk⟩ := hlook i y _ hN hσ hv
  obtain ⟨tt, rfl⟩ := (show ∃ t', w = Value.int t t' from hw)
  obtain ⟨cc, hcc, hcell⟩ : ∃ c, X.env.cells.lookup y = some c ∧ s.heap.IsCell c (some (.int t tt)) := by
    rcases hlk with ⟨h1, _⟩ | ⟨_, h2⟩
    · have h1 : X.env.scope.names.lookup y = some .local := h1
      rcases hloc with z | z <;> rw [z] at h1 <;> cases h1
    · exact h2
  intro ce A' E' n v u s2 m hce1 hce2 hvn rr hn hm it
  have hn2 : n < ks.length := by rw [hl]; exact (List.getElem?_eq_some_iff.mp hvn).1
  obtain ⟨b, ws, rfl, hb⟩ := hks n v ks[n] hvn (List.getElem?_eq_getElem hn2)
  obtain rfl : u = Value.ref b := rr
  obtain ⟨its, rv, pt, _⟩ := I.tuple hb
  have hbP : b ≠ P := fun z => by
    obtain ⟨_, e, _, _, hd1⟩ := _root_.id pt
    rw [z, hPs] at e; cases e; cases hd1
  have hcP : cc ≠ P := fun z => by
    obtain ⟨o, e, hd1⟩ := _root_.id hcell
    rw [z, hPs] at e; cases e; cases hd1
  have pt2 : s2.heap.IsTuple b its.toArray := by
    obtain ⟨o, e, q⟩ := _root_.id pt
    exact ⟨o, it b o hbP e, q⟩
  have hc2 : s2.heap.IsCell cc (some (.int t tt)) := by
    obtain ⟨o, e, q⟩ := _root_.id hcell
    exact ⟨o, it cc o hcP e, q⟩
  obtain ⟨w0, hw0, rw0⟩ := rv.get (i := 0) (x := .int ks[n]) rfl
  obtain ⟨t0, rfl⟩ := (show ∃ t', w0 = Value.int ks[n] t' from rw0)
  have hsz : 0 < its.length := (List.getElem?_eq_some_iff.mp hw0).1
  refine wpAny_isTrue_Compare1 ?_
  refine Subscript_Constant ?_
  refine wpAny_Name (wpAny_loadName_local (by rw [hce1]; exact hk) (show ce.scope.names.lookup x = some .local by rw [hce1]; exact hx) hn hm ?_) hdx
  refine wpAny_Constant_int ?_
  have sq : seqIndex? (0 : Int) its.toArray.size = some 0 := by
    rw [List.size_toArray]
    exact seqIndex_of (by omega) (by omega)
  refine ⟨"tuple", _, slot_tuple_getitem.lookup, pt2.typeIs, getItem_tuple (j := 0) pt2 (by decide) (by decide) sq (by simpa using hw0) ?_⟩
  refine wpAny_Name (wpAny_loadName_free (by rw [hce1]; exact hk) (show ce.scope.names.lookup y = some .free by rw [hce1]; exact hy) (by rw [hce2]; exact hcl cc hcc) hc2 ?_ hcy) hdy
  refine PySem.P.ne_int ?_
  refine wpAny_truthy_bool ⟨?_, GxR.keeps_tok _ _⟩
  show (ks[n] != t) = (ks.getD n 0 != t)
  rw [List.getD_eq_getElem?_getD, List.getElem?_eq_getElem hn2]
  rfl
def pick {α : Type} (l : List α) (is : List Nat) : List α := is.filterMap fun i => l[i]?
theorem vals_pick {vs : List V} {its : List Value} (r : Vals vs its) : ∀ is : List Nat, (∀ i ∈ is, i < vs.length) → Vals (pick vs is) (pick its is)
  | [], _ => .nil
  | i :: is, h => by
    obtain ⟨u, e, q⟩ := r.get (List.getElem?_eq_getElem (h i List.mem_cons_self))
    have ih := vals_pick r is fun j hj => h j (List.mem_cons_of_mem _ hj)
    unfold pick
    rw [List.filterMap_cons_some (List.getElem?_eq_getElem (h i List.mem_cons_self)), List.filterMap_cons_some e]
    exact .cons q ih
theorem pick_at {α : Type} (l : List α) : ∀ (is : List Nat), (∀ i ∈ is, i < l.length) → (pick l is).length = is.length ∧ ∀ j : Nat, (pick l is)[j]? = is[j]?.bind fun i => l[i]?
  | [], _ => ⟨rfl, fun j => by simp [pick]⟩
  | i :: is, h => by
    obtain ⟨h1, h2⟩ := pick_at l is fun j hj => h j (List.mem_cons_of_mem _ hj)
    have e := List.getElem?_eq_getElem (h i List.mem_cons_self)
    unfold pick at h1 h2 ⊢
    rw [List.filterMap_cons_some e]
    refine ⟨by rw [List.length_cons, h1]; rfl, fun j => ?_⟩
    cases j with
    | zero => simp [e]
    | succ j => simpa using h2 j
/-- tuple(x for x in te if x[0] != σ[i]) -/
def gR (K : Fra) (P : Addr) (i : Nat) (σ : L2.St) (Q : VK) : List V → Hp → Prop := fun vs H1 => ∃ (ks : List Int) (t : Int), vs.length ≤ sizeLine ∧ ks.length = vs.length ∧
  (∀ (n : Nat) (u : V) (k : Int), vs[n]? = some u → ks[n]? = some k → ∃ (b : Addr) (ws : List V), u = V.ref b ∧ SqT K H1 b (V.int k :: ws)) ∧ σ[i]? = some (some (V.int t)) ∧
  ∀ H2 p, GxR.Tabbed P H1 H2 → H2 p = none → Q (V.ref p) (upd H2 p (.tup (pick vs ((List.range vs.length).filter fun n => ks.getD n 0 != t))))
def tGf (K : Fra) (P : Addr) (i : Nat) (te : TE) : TE := fun σ H Q => te σ H fun v H1 => ∃ (a : Addr) (vs : List V), v = V.ref a ∧ SqT K H1 a vs ∧ GxR.TabG H1 P ∧ gR K P i σ Q vs H1
theorem pe_gf {c P : Addr} {iter : Expr} {x y : Str} {j i k : Nat} {q1 q2 q3 q4 q5 p0 p1 gpos pos gp2 : Pos} {scope : Scope} {te : TE}
    (hr : Room k X.A) (TB : GxR.TabB X.base X.mg c P) (hcode : X.env.code = .ref c) (s1 : scope.kind = .function) (s2 : scope.isCoroutine = false) (s3 : ∀ y ∈ scope.names, y.2 ≠ .cell) (s4 : scope.names.lookup (".0" : Str) = some NameKind.local) (s5 : scope.names.lookup x = some .local)
    (s6 : ∀ y ∈ scope.names, y.2 = .free → X.env.scope.names.lookup y.1 = some .cell ∨ X.env.scope.names.lookup y.1 = some .free) (hd : (x == ("__debug__" : Str)) = false) (hi : PE X iter te) (hs : ∀ v, genFold iter X.env v = pure v)
    (hy : scope.names.lookup y = some .free) (hdy : (y == ("__debug__" : Str)) = false) (hcy : (y == ("__classdict__" : Str)) = false)
    (hN : X.N[i]? = some y) (hv : Vis X.env.scope y)
    (hg : Gl X "tuple") (hm : X.mg "tuple" = none) :
    PE X (.Call (.Name "tuple" q1) [.GeneratorExp (.Name x p0) [⟨.Name x p1, iter, [gCond x y j q2 q3 q4 q5 gp2], 0⟩] scope gpos] [] pos) (tGf X.K P i te) := by
  constructor
  intro pins s σ H Q I h
  have S : GxR.GenS X.env scope x := ⟨s1, s2, s3, s4, s5, fun z hz e => I.ok.has z.1 (s6 z hz e)⟩
  have hym : (y, NameKind.free) ∈ scope.names := PySem.mem_of_lookup hy
  have hloc := s6 _ hym rfl
  have hcl : ∀ c, X.env.cells.lookup y = some c → (cloFrom X.env.cells scope.names []).lookup y = some c := fun c hc => NdefX.clo_has S.free hym hc
  refine wpAny_Call_Name_kw (ld_blt I hg hm (by decide +kernel : bootBuiltins "tuple" = some (.type "tuple")) ?_ (by decide) (by decide))
  refine PyProof.Rows.callWith_type1 ?_ rfl rfl
  refine Calls.spliced_cons (gen_tup (R := gR X.K P i σ Q) (pins := pins) (σ := σ) (H := H) hr TB hcode S hd hi hs I h fun vs H1 s1 J hTb hR => ?_)
  obtain ⟨ks, t, hz, hl, hks, hσ, q⟩ := hR
  obtain ⟨ps, hP, _⟩ := hTb
  refine ⟨_, test_ok S.kind S.loc hd hy hdy hcy hcl hN hv hloc J hP hl hks hσ, fun g s5 hg5 => ?_⟩
  refine Calls.spliced_nil ?_
  obtain ⟨fp, wr, G, St, its, rv, W, hst, hfp, hgf, hT, hinv⟩ := hg5
  have hn : its.length = vs.length := rv.length.symm
  have hlt : ∀ n ∈ (List.range vs.length).filter (fun n => ks.getD n 0 != t), n < vs.length := fun n hn => by
    have := (List.mem_filter.mp hn).1
    simpa using this
  have hpas : passing (fun n => ks.getD n 0 != t) its.length 0 = (List.range vs.length).filter fun n => ks.getD n 0 != t := by
    unfold passing
    rw [List.drop_zero, hn]
  rw [hpas] at W
  have hpl : ((List.range vs.length).filter fun n => ks.getD n 0 != t).length ≤ sizeLine := by
    refine Nat.le_trans (List.length_filter_le _ _) ?_
    rw [List.length_range]; exact hz
  refine call_tuple_gen (hsz := hpl) W hT hst hfp hgf fun s' acc hm' hacc => ?_
  obtain ⟨H2, htb, J2⟩ := hinv s' hm'
  have hp1 := pick_at its ((List.range vs.length).filter fun n => ks.getD n 0 != t) (fun n h => by rw [hn]; exact hlt n h)
  have hout : acc.toList = pick its ((List.range vs.length).filter fun n => ks.getD n 0 != t) := by
    refine List.ext_getElem? fun n => ?_
    rw [hp1.2]
    cases e : acc.toList[n]? with
    | none =>
      have h1 : acc.size ≤ n := by
        have := List.getElem?_eq_none_iff.mp e
        simpa using this
      rw [hacc.1] at h1
      rw [List.getElem?_eq_none h1]
      rfl
    | some u =>
      obtain ⟨m, e1, e2⟩ := hacc.2 n u (by simpa using e)
      rw [e1]
      exact e2.symm
  have rvo : Vals (pick vs ((List.range vs.length).filter fun n => ks.getD n 0 != t)) acc.toList := by
    rw [hout]; exact vals_pick rv _ hlt
  have hfr := J2.hok.fresh (Nat.le_refl s'.heap.objs.size)
  have hpk := (pick_at vs ((List.range vs.length).filter fun n => ks.getD n 0 != t) hlt).1
  refine ⟨.ref s'.heap.objs.size, _, J2.laid (a := s'.heap.objs.size) (o := .tup (pick vs ((List.range vs.length).filter fun n => ks.getD n 0 != t))) (t' := s'.toks) (fun b u e => Heap.get?_push_of_some _ e) (Nat.le_refl _) ⟨by rw [hpk]; exact hpl, acc.toList, rvo, ⟨_, Heap.get?_push_size _ rfl, rfl, _, by simp; rfl⟩⟩, rfl, q H2 _ htb hfr⟩
end
end MP
namespace MP
open PySem PySem.Spec PyProof.Rows L2
theorem back_adj (n : Nat) : Builtin.Slice.sliceAdjust none none (-1) (n : Int) = ((n : Int) - 1, -1) := by
  simp [Builtin.Slice.sliceAdjust]
theorem back_pl (n : Nat) : Builtin.Slice.slicePlaces ((n : Int) - 1) (-1) (-1) = n := by
  unfold Builtin.Slice.slicePlaces
  simp
  split <;> omega
theorem back_pick (xs : List Value) : ((List.range xs.toArray.size).filterMap fun (k : Nat) => xs.toArray[(((xs.toArray.size : Int) - 1) + (k : Int) * (-1)).toNat]?) = xs.reverse := by
  rw [List.size_toArray]
  have e : ∀ k ∈ List.range xs.length, xs.toArray[(((xs.length : Int) - 1) + (k : Int) * (-1)).toNat]? = some (xs.reverse.getD k .none) := by
    intro k hk
    have hk : k < xs.length := by simpa using hk
    have : (((xs.length : Int) - 1) + (k : Int) * (-1)).toNat = xs.length - 1 - k := by omega
    rw [this, List.getElem?_toArray, List.getD_eq_getElem?_getD, List.getElem?_reverse hk]
    rw [List.getElem?_eq_getElem (by omega)]
    rfl
  have gen : ∀ (l : List Nat) (f : Nat → Option Value), (∀ k ∈ l, f k = some (xs.reverse.getD k .none)) → l.filterMap f = l.map fun k => xs.reverse.getD k .none := by
    intro l f
    induction l with
    | nil => intro _; rfl
    | cons a l ih =>
      intro h
      rw [List.filterMap_cons_some (h a List.mem_cons_self), ih fun k hk => h k (List.mem_cons_of_mem _ hk)]
      rfl
  rw [gen _ _ e]
  apply List.ext_getElem
  · simp
  · intro i h1 h2
    rw [List.getElem_map, List.getElem_range, List.getD_eq_getElem?_getD, List.getElem?_eq_getElem h2]
    rfl
section
variable {prog : Program} {w : World} {A : Around} {E : Value → Shared → Prop} {s : Shared}
theorem getItem_back {t sl : Addr} {its : List Value} {u : Tok} {Q : Value → Shared → Prop} (ht : s.heap.IsTuple t its.toArray) (hs : s.heap.IsSliceOf sl .none .none (.int (-1) u)) (hz : its.length ≤ sizeLine)
    (h : Q (.ref s.heap.objs.size) { s with heap := s.heap.push { cls := .type "tuple", data := .seq its.reverse.toArray } }) : wpAny (model prog w) A (getItem (.ref t) (.ref sl)) Q E s := by
  obtain ⟨os, hos, hcs, hds⟩ := id hs
  have ty : s.TypeIs (.ref sl) "slice" := ⟨os, hos, hcs⟩
  unfold getItem
  refine wpAny_holding ?_
  refine wpAny_bind (wpAny_sequenceKey ht.typeIs (by decide) ?_)
  refine wpAny_bind (wpAny_callSpecial?_slot (name := Str.ofString "__getitem__") ht.typeIs PyProof.Rows.slot_tuple_getitem (wpAny_call_entry PyProof.Rows.slot_tuple_getitem ht.typeIs entry_tuple_getitem ?_ (args_tuple_getitem _ _)))
  change wpAny _ _ (Builtin.Tuple.tupleItemsOf (.ref t) >>= _) _ _ _
  refine wpAny_bind (PyProof.Rows.tupleItemsOf_ ht ?_)
  refine wpAny_bind (wpAny_typeOf ty ?_)
  rw [if_pos (by decide)]
  have ap : ∀ {Q' : Int × Int × Nat → Shared → Prop} {E' : Value → Shared → Prop} {A' : Around}, Q' ((its.toArray.size : Int) - 1, -1, its.toArray.size) s → wpAny (model prog w) A' (Builtin.Slice.sliceApplied (.ref sl) (pure (its.toArray.size : Int))) Q' E' s := by
    intro Q' E' A' q
    unfold Builtin.Slice.sliceApplied Builtin.Slice.sliceFields
    refine wpAny_bind (wpAny_bind (wpAny_field hos hds (x := .none) rfl (wpAny_bind (wpAny_field hos hds (x := .none) rfl (wpAny_bind (wpAny_field hos hds (x := .int (-1) u) rfl (wpAny_pure ?_)))))))
    refine wpAny_bind (slicePart_int ?_)
    show wpAny _ _ (if ((-1 : Int) == 0) = true then _ else _) _ _ s
    rw [if_neg (by decide)]
    refine wpAny_bind (slicePart_none (wpAny_bind (slicePart_none (wpAny_bind (wpAny_pure ?_)))))
    show wpAny _ _ (match Builtin.Slice.sliceAdjust none none (-1) (its.toArray.size : Int) with | (lo, hi) => pure (lo, (-1 : Int), Builtin.Slice.slicePlaces lo hi (-1))) _ _ s
    rw [back_adj]
    show wpAny _ _ (pure ((its.toArray.size : Int) - 1, (-1 : Int), Builtin.Slice.slicePlaces ((its.toArray.size : Int) - 1) (-1) (-1))) _ _ s
    rw [back_pl]
    exact wpAny_pure q
  refine wpAny_bind (ap ?_)
  show wpAny _ _ (if (((its.toArray.size : Int) - 1) == 0 && (-1 : Int) == 1 && its.toArray.size == its.toArray.size) = true then _ else _) _ _ s
  rw [if_neg (by simp)]
  rw [back_pick]
  have hr : sizeOk (.seq its.reverse.toArray) := by
    show its.reverse.toArray.size ≤ sizeLine
    simp; exact hz
  first
    | exact wpAny_bind (m := Builtin.Tuple.tupleExact _) (wpAny_newObj_type (wpAny_pure ⟨_, rfl, wpAny_pure h⟩) hr)
    | exact wpAny_bind (m := Builtin.Tuple.tupleExact _) (wpAny_newObj_type (wpAny_bind (wpAny_pure (wpAny_pure ⟨_, rfl, wpAny_pure h⟩))) hr)
    | exact wpAny_bind (wpAny_bind (m := Builtin.Tuple.tupleExact _) (wpAny_newObj_type (wpAny_pure (wpAny_pure ⟨_, rfl, wpAny_pure h⟩)) hr))
    | exact wpAny_bind (wpAny_bind (m := Builtin.Tuple.tupleExact _) (wpAny_newObj_type (wpAny_pure ⟨_, rfl, wpAny_pure h⟩) hr))
end
section
variable {X : Cx}
def tBk (K : Fra) (te : TE) : TE := fun σ H Q => te σ H fun x H1 => ∃ (a : Addr) (xs : List V), x = V.ref a ∧ SqT K H1 a xs ∧ xs.length ≤ sizeLine ∧ ∀ p, H1 p = none → Q (V.ref p) (upd H1 p (.tup xs.reverse))
theorem vals_rev {vs : List V} {us : List Value} (r : Vals vs us) : Vals vs.reverse us.reverse := r.reverse
theorem pe_bk {e : Expr} {te : TE} {k : Nat} {p1 p2 p3 pos : Pos} (he : PE X e te) : PE X (.Subscript e (.Slice none none (some (.UnaryOp .USub (.Constant (.int 1) k p1) p2)) p3) pos) (tBk X.K te) := by
  constructor
  intro pins s σ H Q I h
  refine Subscript_ (thn (he.run pins s σ H _ I h) fun v s1 ⟨x, H1, J, r1, a, xs, e1, hx, hz, q⟩ => ?_)
  subst e1
  obtain rfl : v = Value.ref a := r1
  have ps : PO X (some (.UnaryOp .USub (.Constant (.int 1) k p1) p2)) (tPart (tUn (rU fun i => .int (-i)) (tC (.int 1)))) := po_some (pe_un un_neg pe_int)
  refine wpAny_Slice ?_
  rw [evalPart_none]
  refine wpAny_pure (wpAny_pure ?_)
  refine thn (ps.run pins s1 σ H1 (fun o H2 => o = some (-1) ∧ H2 = H1) J ⟨1, rfl, -1, rfl, rfl, rfl⟩) fun w s2 ⟨o, H2, J2, pw, eo, eH⟩ => ?_
  subst eo eH
  obtain ⟨u, rfl⟩ : ∃ u, w = Value.int (-1) u := by cases pw; exact ⟨_, rfl⟩
  have J3 : Inv X pins σ H2 { s2 with heap := s2.heap.push { cls := .type "slice", data := .fields #[.none, .none, .int (-1) u] } } := J2.kept (t' := s2.toks) fun b ob z => Heap.get?_push_of_some _ z
  obtain ⟨its, rv, pt, _⟩ := J3.tuple hx
  have hl := rv.length
  show wpAny (model X.prog X.w) X.A (subscriptTail e (.Slice none none (some (.UnaryOp .USub (.Constant (.int 1) k p1) p2)) p3) (.ref a) (.ref s2.heap.objs.size)) (EP X pins σ Q) X.xe { s2 with heap := s2.heap.push { cls := .type "slice", data := .fields #[.none, .none, .int (-1) u] } }
  refine tail_any (ops := [.ref a, .ref s2.heap.objs.size]) pt.typeIs slot_tuple_getitem.lookup ?_ (by with_unfolding_all rfl)
  refine getItem_back pt (Heap.IsSliceOf.new _ _ _ _) (by omega) ?_
  exact ⟨.ref _, _, J3.laid (t' := s2.toks) (o := .tup xs.reverse) (fun b ob z => Heap.get?_push_of_some _ z) (Nat.le_refl _) ⟨by rw [List.length_reverse]; exact hz, its.reverse, vals_rev rv, ⟨_, Heap.get?_push_size _ rfl, rfl, _, rfl⟩⟩, rfl, q _ (J3.hok.fresh (Nat.le_refl _))⟩
end
end MP
namespace MP
open PySem PySem.Spec PyProof.Rows L2
section
variable {X : Cx} {K : Fra} {φ φ' φ1 φ2 : List Addr} {H H' H1 H2 : Hp} {h h' h1 h2 : MH} {v : V} {m : MV} {env : Env} {σ : L2.St}
theorem sim_not {a : Expr} {pos : Pos} {ea : Env → MH → R} (ha : PE X a (tEv X.K ea)) (hT : tOk a = true → PT X a (tTv X.K ea)) (ht : tOk a = true) :
    Sim X (.UnaryOp .Not a pos) (fun env h => (ea env h).bind fun x => (truth x.2 x.1).map fun c => (.bl (!c), x.2)) := by
  refine ⟨(pe_notT ha).imp fun σ H Q hh => ?_, fun _ => (pt_not (hT ht)).imp fun σ H Q hh => ?_, fun z => nomatch z⟩
  · obtain ⟨φ, hp, env, r, w, e, q⟩ := hh
    simp only [Option.bind_eq_some_iff, Option.map_eq_some_iff] at e
    obtain ⟨x, e1, c, e2, rfl⟩ := e
    exact go w e1 fun φ1 H1 v1 s1 w1 r1 => ⟨c, tru_of w1.hr r1 e2, q φ1 H1 _ s1 w1.hr rfl⟩
  · obtain ⟨φ, hp, env, r, w, e, c, t, q⟩ := hh
    simp only [Option.bind_eq_some_iff, Option.map_eq_some_iff] at e
    obtain ⟨x, e1, c', e2, rfl⟩ := e
    cases t
    exact goT w e1 e2 fun φ1 H1 s1 w1 => q φ1 H1 s1 w1.hr
theorem sim_neg {a : Expr} {pos : Pos} {ea : Env → MH → R} (ha : PE X a (tEv X.K ea)) :
    Sim X (.UnaryOp .USub a pos) (fun env h => (ea env h).bind negM) := by
  have pe : PE X (.UnaryOp .USub a pos) (tEv X.K (fun env h => (ea env h).bind negM)) := by
    refine (pe_un un_neg ha).imp fun σ H Q hh => ?_
    obtain ⟨φ, hp, env, r, w, e, q⟩ := hh
    simp only [Option.bind_eq_some_iff] at e
    obtain ⟨x, e1, e2⟩ := e
    unfold negM at e2
    split at e2
    · rename_i i hi
      cases e2
      refine go w e1 fun φ1 H1 v1 s1 w1 r1 => ?_
      rw [hi] at r1
      cases r1
      exact ⟨i, rfl, q φ1 H1 _ s1 w1.hr rfl⟩
    · cases e2
  refine ⟨pe, fun _ => (pt_truth pe (fun _ => rfl)).imp fun σ H Q hh => ?_, fun z => nomatch z⟩
  obtain ⟨φ, hh, env, r, w, e, c, t, k⟩ := hh
  exact go w e fun φ1 H1 v s w1 rv => ⟨c, tru_of w1.hr rv t, k φ1 H1 s w1.hr⟩
theorem sim_ife {d a b : Expr} {pos : Pos} {ed ea eb : Env → MH → R} (hd : PT X d (tTv X.K ed)) (ha : PE X a (tEv X.K ea)) (hb : PE X b (tEv X.K eb)) :
    Sim X (.IfExp d a b pos) (fun env h => (ed env h).bind fun x => (truth x.2 x.1).bind fun c => if c then ea env x.2 else eb env x.2) := by
  refine ⟨(pe_ifExp hd ha hb).imp fun σ H Q hh => ?_, (fun z => nomatch z), (fun z => nomatch z)⟩
  obtain ⟨φ, hp, env, r, w, e, q⟩ := hh
  simp only [Option.bind_eq_some_iff] at e
  obtain ⟨x, e1, c, e2, e3⟩ := e
  refine goT w e1 e2 fun φ1 H1 s1 w1 => ?_
  cases c with
  | true =>
    rw [if_pos rfl] at e3 ⊢
    exact go w1 e3 fun φ2 H2 v2 s2 w2 r2 => q φ2 H2 v2 (s1.trans s2) w2.hr r2
  | false =>
    rw [if_neg Bool.false_ne_true] at e3 ⊢
    exact go w1 e3 fun φ2 H2 v2 s2 w2 r2 => q φ2 H2 v2 (s1.trans s2) w2.hr r2
theorem sim_idx {a b : Expr} {pos : Pos} {ea eb : Env → MH → R} (ha : PE X a (tEv X.K ea)) (hb : PE X b (tEv X.K eb)) (hok : okX b = true) :
    PE X (.Subscript a b pos) (tEv X.K fun env h => (ea env h).bind fun x => (eb env x.2).bind fun y => (atM y.2 x.1 y.1).map fun v => (v, y.2)) := by
  refine (pe_ix ixM ha hb (plainIx_of hok)).imp fun σ H Q hh => ?_
  obtain ⟨φ, hp, env, r, w, e, q⟩ := hh
  simp only [Option.bind_eq_some_iff, Option.map_eq_some_iff] at e
  obtain ⟨x, e1, y, e2, z, e3, rfl⟩ := e
  refine go w e1 fun φ1 H1 v1 s1 w1 r1 => go w1 e2 fun φ2 H2 v2 s2 w2 r2 => ?_
  exact ⟨φ2, y.2, x.1, y.1, z, w2.hr, RV.mono s2 w1.hr.dom _ _ r1, r2, e3, q.on (s1.trans s2)⟩
/-- a slice's part -/
def tPo (K : Fra) (ab : Bool) (ev : Env → MH → R) : TO := fun σ H Q => ∃ φ h env r i, Ew K φ h env σ H ∧ ev env h = some r ∧ partM ab r.1 = some i ∧ ∀ φ' H', Stp φ H φ' H' → Ew K φ' r.2 env σ H' → Q i H'
theorem _root_.L2.PO.imp {X : Cx} {o : Option Expr} {t t' : TO} (h : PO X o t) (k : ∀ σ H Q, t' σ H Q → t σ H Q) : PO X o t' := ⟨fun pins s σ H Q I q => h.run pins s σ H Q I (k _ _ _ q)⟩
theorem po_of {g : Mod} {cf : Str → List MV → MH → R} {o : Option Expr} {e : E} (hs : ∀ l, o = some l → e.isNon = false ∧ PE X l (tEv X.K (evE g cf e))) (hn : o = none → e.isNon = true) : PO X o (tPo X.K e.isNon (evE g cf e)) := by
  cases o with
  | none =>
    have hn := hn rfl
    rw [hn]
    refine po_none.imp fun σ H Q hh => ?_
    obtain ⟨φ, h, env, r, i, w, e1, e2, q⟩ := hh
    cases e2
    cases e <;> first | (cases hn; done) | skip
    simp only [evE] at e1
    cases e1
    exact q φ H .refl w
  | some l =>
    obtain ⟨hn, hp⟩ := hs l rfl
    rw [hn]
    refine (po_some hp).imp fun σ H Q hh => ?_
    obtain ⟨φ, h, env, r, i, w, e1, e2, q⟩ := hh
    refine go w e1 fun φ1 H1 v1 s1 w1 r1 => ?_
    unfold partM at e2
    simp only at e2
    split at e2
    · rename_i j hj
      cases e2
      rw [hj] at r1
      cases r1
      exact ⟨j, rfl, q φ1 H1 s1 w1⟩
    · cases e2
theorem sim_slice {g : Mod} {cf : Str → List MV → MH → R} {a : Expr} {l u : Option Expr} {p2 pos : Pos} {ea : Env → MH → R} {lo hi : E} (ha : PE X a (tEv X.K ea)) (hl : PO X l (tPo X.K lo.isNon (evE g cf lo))) (hu : PO X u (tPo X.K hi.isNon (evE g cf hi))) :
    PE X (.Subscript a (.Slice l u none p2) pos) (tEv X.K fun env h => (ea env h).bind fun x => (evE g cf lo env x.2).bind fun l => (evE g cf hi env l.2).bind fun u => (partM lo.isNon l.1).bind fun i => (partM hi.isNon u.1).bind fun j => sliceM u.2 x.1 i j) := by
  refine (pe_slice slM ha hl hu).imp fun σ H Q hh => ?_
  obtain ⟨φ, hp, env, r, w, e, q⟩ := hh
  simp only [Option.bind_eq_some_iff] at e
  obtain ⟨x, e1, y, e2, z, e3, i, e4, j, e5, e6⟩ := e
  refine go w e1 fun φ1 H1 v1 s1 w1 r1 => ⟨φ1, x.2, env, y, i, w1, e2, e4, fun φ2 H2 s2 w2 => ⟨φ2, y.2, env, z, j, w2, e3, e5, fun φ3 H3 s3 w3 => ?_⟩⟩
  exact ⟨φ3, z.2, x.1, r, w3.hr, RV.mono (s2.trans s3) w1.hr.dom _ _ r1, e6, q.on ((s1.trans s2).trans s3)⟩
theorem sim_call {g : Mod} {k : Nat} {c : Cc} (xr : XR g k X c) {x : Str} {xs : List Expr} {es : List E} {p pos : Pos} (hg : isGl c.sc x = true) (hn : okN x = true) (hf : (g.fns.lookup x).isSome = true) (hc : chkEs g c xs es = true)
    (ha : PA X xs (tEs X.K (evEs g (run g k) es))) : PE X (.Call (.Name x p) xs [] pos) (tEv X.K fun env h => (evEs g (run g k) es env h).bind fun r => run g k x r.1 r.2) := by
  obtain ⟨i, hi⟩ := Option.isSome_iff_exists.mp hf
  obtain ⟨a, fd, ps, e1, e2, e3, e4, F⟩ := xr.fns x i hi
  have fin : ∀ σ H Q, tEv X.K (fun env h => (evEs g (run g k) es env h).bind fun r => run g k x r.1 r.2) σ H Q → tCall (spM X.K g k x) [] E0 (tEs X.K (evEs g (run g k) es)) σ H Q := by
    intro σ H Q hh
    obtain ⟨φ, hp, env, r, w, e, q⟩ := hh
    simp only [Option.bind_eq_some_iff] at e
    obtain ⟨rs, f1, f2⟩ := e
    refine goA w f1 fun φ1 H1 vs s w1 rv => ?_
    rw [List.append_nil]
    refine ⟨i, φ1, rs.2, rs.1, r, hi, ?_, w1.hr, rv, f2, q.on s⟩
    cases k with
    | zero => cases f2
    | succ k =>
      simp only [run, hi] at f2
      split at f2
      · rename_i hl
        rw [rv.len]; exact hl
      · cases f2
  cases xs with
  | nil =>
    cases es with
    | cons _ _ => simp [chkEs] at hc
    | nil =>
      refine (pe_call0 (E := E0) F xr.room (xr.gl hg) e1 e2 e3 .nil pass0 (okN_d hn).1).imp fun σ H Q hh => ?_
      obtain ⟨φ, hp, env, r, w, e, q⟩ := hh
      simp only [evEs, Option.bind_some] at e
      refine ⟨i, φ, hp, [], r, hi, ?_, w.hr, rfl, e, q⟩
      cases k with
      | zero => cases e
      | succ k =>
        simp only [run, hi] at e
        split at e
        · rename_i hl
          exact hl
        · cases e
  | cons y ys =>
    cases es with
    | nil => simp [chkEs] at hc
    | cons b bs =>
      have hc' := hc
      simp only [chkEs, Bool.and_eq_true] at hc'
      exact (pe_call (E := E0) F xr.room (xr.gl hg) e1 e2 e3 .nil pass0 ha (okN_d hn).1 (star_of (okE hc'.1)) (plain_args hc'.2)).imp fin
theorem biR (hc : X.calm = true) (hu : X.A.units + 64 < cLine) (f : Bi) : ∃ b : Bool, (b = true → ∃ id, CallR X (.builtin id) (rBi X.K f) ∧ bootBuiltins (biS f) = some (.builtin id)) ∧ (b = false → ∃ T, CallR X (.type T) (rBi X.K f) ∧ bootBuiltins (biS f) = some (.type T)) := by
  cases f with
  | len => exact ⟨true, fun _ => ⟨_, cLen, by decide +kernel⟩, fun z => nomatch z⟩
  | abs => exact ⟨true, fun _ => ⟨_, cAbs, by decide +kernel⟩, fun z => nomatch z⟩
  | max => exact ⟨true, fun _ => ⟨_, cMax hc, by decide +kernel⟩, fun z => nomatch z⟩
  | min => exact ⟨true, fun _ => ⟨_, cMin hc hu, by decide +kernel⟩, fun z => nomatch z⟩
  | sum => exact ⟨true, fun _ => ⟨_, cSum hc, by decide +kernel⟩, fun z => nomatch z⟩
  | all => exact ⟨true, fun _ => ⟨_, cAll hc, by decide +kernel⟩, fun z => nomatch z⟩
  | any => exact ⟨true, fun _ => ⟨_, cAny hc, by decide +kernel⟩, fun z => nomatch z⟩
  | int => exact ⟨false, (fun z => nomatch z), fun _ => ⟨_, cInt, by decide +kernel⟩⟩
  | list => exact ⟨false, (fun z => nomatch z), fun _ => ⟨_, cList, by decide +kernel⟩⟩
  | tuple => exact ⟨false, (fun z => nomatch z), fun _ => ⟨_, cTuple, by decide +kernel⟩⟩
theorem biS_n (f : Bi) : biS f ∈ bltNames ∧ biS f ≠ "__name__" ∧ (biS f == ("__debug__" : Str)) = false := by cases f <;> decide +kernel
theorem sim_bi {g : Mod} {k : Nat} {c : Cc} (xr : XR g k X c) {f : Bi} {y : Expr} {ys : List Expr} {es : List E} {p pos : Pos} (hg : isGl c.sc (biS f) = true) (hc : chkEs g c (y :: ys) es = true)
    (ha : PA X (y :: ys) (tEs X.K (evEs g (run g k) es))) : PE X (.Call (.Name (biS f) p) (y :: ys) [] pos) (tEv X.K fun env h => (evEs g (run g k) es env h).bind fun r => biM f r.2 r.1) := by
  obtain ⟨n1, n2, n3⟩ := biS_n f
  have hm := xr.blt _ n1
  have fin : ∀ σ H Q, tEv X.K (fun env h => (evEs g (run g k) es env h).bind fun r => biM f r.2 r.1) σ H Q → tCB (rBi X.K f) (tEs X.K (evEs g (run g k) es)) σ H Q := by
    intro σ H Q hh
    obtain ⟨φ, hp, env, r, w, e, q⟩ := hh
    simp only [Option.bind_eq_some_iff] at e
    obtain ⟨rs, f1, f2⟩ := e
    exact goA w f1 fun φ1 H1 vs s w1 rv => ⟨φ1, rs.2, rs.1, r, w1.hr, rv, f2, q.on s⟩
  cases es with
  | nil => simp [chkEs] at hc
  | cons b bs =>
    simp only [chkEs, Bool.and_eq_true] at hc
    obtain ⟨bb, h1, h2⟩ := biR (X := X) xr.calm (by have := xr.hu; omega) f
    cases bb with
    | true =>
      obtain ⟨id, q1, q2⟩ := h1 rfl
      exact (pe_callB q1 (xr.gl hg) hm q2 ha n2 n3 (star_of (okE hc.1)) (plain_args hc.2)).imp fin
    | false =>
      obtain ⟨id, q1, q2⟩ := h2 rfl
      exact (pe_callTy q1 (xr.gl hg) hm q2 ha n2 n3 (star_of (okE hc.1)) (plain_args hc.2)).imp fin
theorem tyN_n (t : TyN) : tyN t ∈ bltNames ∧ tyN t ≠ "__name__" ∧ (tyN t == ("__debug__" : Str)) = false ∧ bootBuiltins (tyN t) = some (.type (tyS t)) := by cases t <;> decide +kernel
theorem sim_isi {g : Mod} {k : Nat} {c : Cc} (xr : XR g k X c) {y : Expr} {t : TyN} {ea : Env → MH → R} {p p2 pos : Pos} (hg : isGl c.sc "isinstance" = true) (hg2 : isGl c.sc (tyN t) = true) (hok : okX y = true) (ha : PE X y (tEv X.K ea)) :
    PE X (.Call (.Name "isinstance" p) [y, .Name (tyN t) p2] [] pos) (tEv X.K fun env h => (ea env h).bind fun x => (isiM x.2 x.1 t).map fun c => (.bl c, x.2)) := by
  obtain ⟨n1, n2, n3, n4⟩ := tyN_n t
  have hm2 := xr.blt _ n1
  have hm := xr.blt "isinstance" (by decide +kernel)
  have pT : PE X (.Name (tyN t) p2) (tC (.ty (tyS t))) := pe_bltn (xr.gl hg2) hm2 n4 rfl n2 n3
  refine (pe_callB (cIsi t) (xr.gl hg) hm (by decide +kernel) (pa_cons ha (pa_cons pT pa_nil rfl) (star_of hok)) (by decide +kernel) (by decide +kernel) (star_of hok) rfl).imp fun σ H Q hh => ?_
  obtain ⟨φ, hp, env, r, w, e, q⟩ := hh
  simp only [Option.bind_eq_some_iff, Option.map_eq_some_iff] at e
  obtain ⟨x, e1, b, e2, rfl⟩ := e
  exact go w e1 fun φ1 H1 v1 s1 w1 r1 => ⟨φ1, x.2, x.1, v1, b, w1.hr, rfl, r1, e2, q φ1 H1 _ s1 w1.hr rfl⟩
theorem sim_meth {g : Mod} {k : Nat} {c : Cc} (xr : XR g k X c) {m : Me} {o : Expr} {xs : List Expr} {es : List E} {eo : Env → MH → R} {ap pos : Pos} (hs : notSuper o = true) (hline : (ap.endLine == pos.line) = true) (hlen : xs.length < 20) (ho : PE X o (tEv X.K eo)) (hc : chkEs g c xs es = true)
    (ha : PA X xs (tEs X.K (evEs g (run g k) es))) : PE X (.Call (.Attribute o (meS m) ap) xs [] pos) (tEv X.K fun env h => (eo env h).bind fun x => (evEs g (run g k) es env x.2).bind fun r => methM m r.2 x.1 r.1) := by
  have fin : ∀ σ H Q, tEv X.K (fun env h => (eo env h).bind fun x => (evEs g (run g k) es env x.2).bind fun r => methM m r.2 x.1 r.1) σ H Q → tBM X.K "list" (rMe X.K m) (tEv X.K eo) (tEs X.K (evEs g (run g k) es)) σ H Q := by
    intro σ H Q hh
    obtain ⟨φ, hp, env, r, w, e, q⟩ := hh
    simp only [Option.bind_eq_some_iff] at e
    obtain ⟨x, e1, rs, f1, f2⟩ := e
    refine go w e1 fun φ1 H1 v1 s1 w1 r1 => ⟨?_, goA w1 f1 fun φ2 H2 vs s w2 rv => ⟨φ2, rs.2, x.1, rs.1, r, w2.hr, RV.mono s w1.hr.dom _ _ r1, rv, f2, q.on (s1.trans s)⟩⟩
    unfold methM at f2
    split at f2
    · rename_i n hn
      rw [hn] at r1
      obtain ⟨a, ea, rfl⟩ := r1
      obtain ⟨vs, hv⟩ := w1.hr.dom a (List.mem_of_getElem? ea)
      exact .inl ⟨rfl, vs, .of hv⟩
    · cases f2
  cases xs with
  | nil =>
    cases es with
    | cons _ _ => simp [chkEs] at hc
    | nil =>
      cases m with
      | append =>
        refine PE.imp (t := fun _ _ _ => False) ⟨fun _ _ _ _ _ _ z => z.elim⟩ fun σ H Q hh => ?_
        obtain ⟨φ, hp, env, r, w, e, q⟩ := hh
        simp only [Option.bind_eq_some_iff, evEs] at e
        obtain ⟨x, e1, rs, f1, f2⟩ := e
        cases f1
        unfold methM at f2
        split at f2 <;> cases f2
      | pop =>
        refine (pe_bm0 PySem.F.plainAttrs_list PySem.F.slot_list_pop PySem.F.type_list_pop mPop ho (base_of hs) hline).imp fun σ H Q hh => ?_
        obtain ⟨φ, hp, env, r, w, e, q⟩ := hh
        have hh := fin σ H (fun v H' => Q v H') ⟨φ, hp, env, r, w, e, q⟩
        simp only [Option.bind_eq_some_iff, evEs] at e
        obtain ⟨x, e1, rs, f1, f2⟩ := e
        cases f1
        refine go w e1 fun φ1 H1 v1 s1 w1 r1 => ⟨?_, ⟨φ1, x.2, x.1, [], r, w1.hr, r1, rfl, f2, q.on s1⟩⟩
        unfold methM at f2
        split at f2
        · rename_i n hn
          rw [hn] at r1
          obtain ⟨a, ea, rfl⟩ := r1
          obtain ⟨vs, hv⟩ := w1.hr.dom a (List.mem_of_getElem? ea)
          exact .inl ⟨rfl, vs, .of hv⟩
        · cases f2
  | cons y ys =>
    cases es with
    | nil => simp [chkEs] at hc
    | cons b bs =>
      have hc' := hc
      simp only [chkEs, Bool.and_eq_true] at hc'
      have hx : ((((backTo pos (starEach (y :: ys) X.env)).all fun x => !x.1) && (backToKw pos (keywordEach [] X.env)).all fun x => x.1.isSome) && decide (((y :: ys).length + ([] : List Keyword).length + if ([] : List Keyword).isEmpty = true then 0 else 1) < 30)) = true := by
        rw [all_plain hc]
        simp only [Bool.true_and, Bool.and_eq_true, decide_eq_true_eq]
        refine ⟨rfl, ?_⟩
        simp only [List.length_nil, List.isEmpty_nil, if_true]
        omega
      cases m with
      | append => exact (pe_bm PySem.F.plainAttrs_list PySem.F.slot_list_append PySem.F.type_list_append mAppend ho ha (base_of hs) hx hline (star_of (okE hc'.1)) (plain_args hc'.2)).imp fin
      | pop => exact (pe_bm PySem.F.plainAttrs_list PySem.F.slot_list_pop PySem.F.type_list_pop mPop ho ha (base_of hs) hx hline (star_of (okE hc'.1)) (plain_args hc'.2)).imp fin
/-- list(range(..)) -/
theorem sim_lr1 {g : Mod} {k : Nat} {c : Cc} (xr : XR g k X c) {a : Expr} {es : List E} {p p2 pos pos2 : Pos} (hg : isGl c.sc "list" = true) (hg2 : isGl c.sc "range" = true) (hc : chkEs g c [a] es = true) (ha : ∀ e, es = [e] → PE X a (tEv X.K (evE g (run g k) e))) :
    PE X (.Call (.Name "list" p) [.Call (.Name "range" p2) [a] [] pos2] [] pos) (tEv X.K fun env h => (evEs g (run g k) es env h).bind fun r => (itsM .rng1 r.2 r.1).map fun st => (.ref r.2.length, r.2 ++ [.lst st.items])) := by
  cases es with
  | nil => simp [chkEs] at hc
  | cons e es =>
    simp only [chkEs, Bool.and_eq_true] at hc
    cases es with
    | cons _ _ => simp [chkEs] at hc
    | nil =>
      have hok := okE hc.1
      refine (pe_listRg xr.calm (xr.gl hg) (xr.blt "list" (by decide +kernel)) (prg_1 (xr.gl hg2) (xr.blt "range" (by decide +kernel)) (ha e rfl) (star_of hok)) rfl).imp fun σ H Q hh => ?_
      obtain ⟨φ, hp, env, r, w, e1, q⟩ := hh
      simp only [evEs, Option.bind_eq_some_iff, Option.map_eq_some_iff, Option.map_some] at e1
      obtain ⟨x, ⟨y, f1, f2⟩, st, f3, rfl⟩ := e1
      obtain ⟨_, rfl, rfl⟩ := f2
      refine go w f1 fun φ1 H1 v1 s1 w1 r1 => ?_
      unfold itsM at f3
      simp only at f3
      split at f3
      · rename_i n hn
        split at f3
        · rename_i hz
          cases f3
          have hn' : y.1 = .int n := by
            injection hn
          rw [hn'] at r1
          cases r1
          have hz1 : n ≤ 16777216 := hz.1
          refine ⟨n, rfl, ⟨by decide, by decide, hz.2, by omega, by omega⟩, ?_⟩
          refine (q.on s1).lst w1.hr ?_ ?_
          · unfold rgV
            refine RVs.of (by simp) fun i x v h1 h2 => ?_
            rw [List.getElem?_map] at h1 h2
            simp only [Option.map_eq_some_iff] at h1 h2
            obtain ⟨a, h1, rfl⟩ := h1
            obtain ⟨b, h2, rfl⟩ := h2
            rw [show (n - 0).toNat = n.toNat by omega, h1] at h2
            cases h2
            show V.int (0 + _) = V.int _
            rw [Int.zero_add]
          · rw [List.length_map, List.length_range]
            show _ ≤ 16777216
            omega
        · cases f3
      · cases f3
theorem sim_back {e : Expr} {ea : Env → MH → R} {k : Nat} {p1 p2 p3 pos : Pos} (ha : PE X e (tEv X.K ea)) : PE X (.Subscript e (.Slice none none (some (.UnaryOp .USub (.Constant (.int 1) k p1) p2)) p3) pos) (tEv X.K fun env h => (ea env h).bind backM) := by
  refine (pe_bk ha).imp fun σ H Q hh => ?_
  obtain ⟨φ, hp, env, r, w, e0, q⟩ := hh
  simp only [Option.bind_eq_some_iff] at e0
  obtain ⟨x, e1, e2⟩ := e0
  refine go w e1 fun φ1 H1 v1 s1 w1 r1 => ?_
  unfold backM at e2
  split at e2
  · rename_i xs hx
    cases e2
    rw [hx] at r1
    obtain ⟨a, vs, rfl, t, rr, z⟩ := r1
    have rv : RVs X.K φ1 H1 vs.reverse xs.reverse := by
      refine .of (by rw [List.length_reverse, List.length_reverse, rr.len]) fun i m u h1 h2 => ?_
      have hi : i < xs.length := by have := (List.getElem?_eq_some_iff.mp h1).1; rwa [List.length_reverse] at this
      rw [List.getElem?_reverse hi] at h1
      rw [List.getElem?_reverse (by rw [rr.len]; exact hi), rr.len] at h2
      obtain ⟨u2, p, q⟩ := rr.get h1
      rw [p] at h2; cases h2
      exact q
    have hz : xs.reverse.length ≤ sizeLine := by rw [List.length_reverse]; exact z
    exact ⟨a, vs, rfl, t, by rw [rr.len]; exact z, (q.on s1).tup w1.hr rv hz⟩
  · cases e2
theorem sim_lenset {g : Mod} {k : Nat} {c : Cc} (xr : XR g k X c) {e : Expr} {ea : Env → MH → R} {p p2 q pos : Pos} (hg : isGl c.sc "len" = true) (hg2 : isGl c.sc "set" = true) (hok : okX e = true) (ha : PE X e (tEv X.K ea)) :
    PE X (.Call (.Name "len" p) [.Call (.Name "set" p2) [e] [] q] [] pos) (tEv X.K fun env h => (ea env h).bind lsM) := by
  refine (pe_lenSetI xr.calm (xr.gl hg) (xr.blt "len" (by decide +kernel)) (xr.gl hg2) (xr.blt "set" (by decide +kernel)) ha (star_of hok)).imp fun σ H Q hh => ?_
  obtain ⟨φ, hp, env, r, w, e0, q⟩ := hh
  simp only [Option.bind_eq_some_iff] at e0
  obtain ⟨x, e1, e2⟩ := e0
  refine go w e1 fun φ1 H1 v1 s1 w1 r1 => ?_
  unfold lsM at e2
  simp only [Option.bind_eq_some_iff] at e2
  obtain ⟨xs, f1, ns, f2, f3⟩ := e2
  split at f3
  · rename_i hn
    cases f3
    obtain ⟨a, vs, rfl, t, q1, z⟩ := lst_of w1.hr r1 f1
    have := ints_of f2 q1
    subst this
    exact ⟨a, ns, rfl, t, hn.2, hn.1, q φ1 H1 _ s1 w1.hr rfl⟩
  · cases f3
theorem pick_succ {α : Type} (x : α) (xs : List α) : ∀ is : List Nat, pick (x :: xs) (is.map (· + 1)) = pick xs is
  | [] => rfl
  | i :: is => by
    have ih := pick_succ x xs is
    unfold pick at ih ⊢
    simp only [List.map_cons, List.filterMap_cons, List.getElem?_cons_succ]
    rw [ih]
theorem pick_filter {α : Type} : ∀ (xs : List α) (p : Nat → Bool) (q : α → Bool), (∀ i x, xs[i]? = some x → p i = q x) → pick xs ((List.range xs.length).filter p) = xs.filter q
  | [], _, _, _ => rfl
  | x :: xs, p, q, h => by
    have ih := pick_filter xs (fun i => p (i + 1)) q fun i y hy => h (i + 1) y (by simpa using hy)
    have e0 : p 0 = q x := h 0 x rfl
    have e1 : ((List.range xs.length).map (· + 1)).filter p = ((List.range xs.length).filter fun i => p (i + 1)).map (· + 1) := by
      rw [List.filter_map]; rfl
    rw [List.length_cons, List.range_succ_eq_map]
    have e2 : (List.range xs.length).map Nat.succ = (List.range xs.length).map (· + 1) := rfl
    rw [e2, List.filter_cons, List.filter_cons, e1, e0]
    cases q x with
    | true =>
      simp only [if_true]
      have : pick (x :: xs) (0 :: ((List.range xs.length).filter fun i => p (i + 1)).map (· + 1)) = x :: pick (x :: xs) (((List.range xs.length).filter fun i => p (i + 1)).map (· + 1)) := by
        unfold pick
        rw [List.filterMap_cons]
        rfl
      rw [this, pick_succ, ih]
    | false =>
      simp only [Bool.false_eq_true, if_false]
      rw [pick_succ, ih]
theorem rvs_pick {vs : List V} {xs : List MV} (r : RVs K φ H vs xs) (is : List Nat) (h : ∀ i ∈ is, i < xs.length) : RVs K φ H (pick vs is) (pick xs is) := by
  obtain ⟨a1, a2⟩ := pick_at xs is h
  obtain ⟨b1, b2⟩ := pick_at vs is fun i hi => by rw [r.len]; exact h i hi
  refine .of (by rw [a1, b1]) fun j m u h1 h2 => ?_
  rw [a2] at h1
  rw [b2] at h2
  cases e : is[j]? with
  | none => rw [e] at h1; cases h1
  | some i =>
    rw [e] at h1 h2
    obtain ⟨u2, p, q⟩ := r.get h1
    have h2 : vs[i]? = some u := h2
    rw [p] at h2; cases h2
    exact q
theorem stp_tab {P : Addr} {H2 : Hp} (t : GxR.TabG H P) (b : GxR.Tabbed P H H2) : Stp φ H φ H2 := by
  obtain ⟨ps, e, _⟩ := t
  refine ⟨⟨[], (List.append_nil _).symm⟩, fun a o ea _ nt => ?_, fun a qs ea _ => ?_, fun _ q => .inl q⟩
  · have : a ≠ P := fun z => by rw [z, e] at ea; cases ea; exact nt ps rfl
    rw [b.2 a this]; exact ea
  · by_cases ha : a = P
    · subst ha
      obtain ⟨ps2, e2, t2⟩ := b.1
      exact ⟨ps2, e2, fun _ => t2⟩
    · exact ⟨qs, by rw [b.2 a ha]; exact ea, id⟩
theorem sim_gf {g : Mod} {k : Nat} {c : Cc} (xr : XR g k X c) {i j : Nat} {x y : Str} {iter : Expr} {scope : Scope} {ea : Env → MH → R} {q1 q2 q3 q4 q5 p0 p1 gpos pos gp2 : Pos} (hgen : c.gen = true) (hg : isGl c.sc "tuple" = true) (hdx : okN x = true) (hdy : okN y = true) (hv : isVis c.sc y = true) (hN : c.N[i]? = some y)
    (hs : gScope c scope x y = true) (hok : isNm iter = true) (ha : PE X iter (tEv X.K ea)) :
    PE X (.Call (.Name "tuple" q1) [.GeneratorExp (.Name x p0) [⟨.Name x p1, iter, [gCond x y j q2 q3 q4 q5 gp2], 0⟩] scope gpos] [] pos) (tEv X.K fun env h => (ea env h).bind (gfM i env)) := by
  obtain ⟨cc, P, hc, TB, hP⟩ := xr.gen hgen
  simp only [gScope, Bool.and_eq_true, decide_eq_true_eq, Bool.not_eq_true', List.all_eq_true, Bool.or_eq_true, decide_eq_false_iff_not] at hs
  obtain ⟨⟨⟨⟨⟨⟨h1, h2⟩, h3⟩, h4⟩, h5⟩, h6⟩, h7⟩ := hs
  have hfold : ∀ v, genFold iter X.env v = pure v := by
    intro v
    cases iter <;> first | rfl | cases hok
  refine (pe_gf xr.room TB hc h1 h2 h3 h4 h5 (fun z hz e => ?_) (okN_d hdx).1 ha hfold h6 (okN_d hdy).1 (okN_d hdy).2 (by rw [xr.hN]; exact hN) (by rw [xr.sc]; exact isVis_of hv) (xr.gl hg) (xr.blt "tuple" (by decide +kernel))).imp fun σ H Q hh => ?_
  · rw [xr.sc]
    rcases h7 z hz with (w | w) | w
    · exact absurd e w
    · exact .inl w
    · exact .inr w
  obtain ⟨φ, hp, env, r, w, e0, q⟩ := hh
  simp only [Option.bind_eq_some_iff] at e0
  obtain ⟨xv, e1, e2⟩ := e0
  unfold gfM at e2
  split at e2
  · rename_i t ht
    split at e2
    · rename_i xs hx
      split at e2
      · rename_i hk
        cases e2
        refine go w e1 fun φ1 H1 v1 s1 w1 r1 => ?_
        rw [hx] at r1
        obtain ⟨a, vs, rfl, tt, rr, z⟩ := r1
        obtain ⟨tv, hσ, rt⟩ := w.at_ i _ ht
        cases rt
        refine ⟨a, vs, rfl, tt, w1.hr.tab P hP, xs.map (fun y => (keyM y).getD 0), t, by rw [rr.len]; exact z, by rw [List.length_map, rr.len], fun n u kk hu hkk => ?_, hσ, fun H2 p hb hp0 => ?_⟩
        · obtain ⟨m, g1, g2⟩ := rr.get' hu
          rw [List.getElem?_map, g1] at hkk
          have hm : (keyM m).isSome = true := List.all_eq_true.mp hk m (List.mem_of_getElem? g1)
          cases m with
          | tup ys =>
            cases ys with
            | nil => simp [keyM] at hm
            | cons y0 ys =>
              cases y0 <;> first | (simp [keyM] at hm; done) | skip
              obtain ⟨b, ws, rfl, t2, r2, _⟩ := g2
              obtain ⟨w0, wr, rfl, r3, r4⟩ := r2
              cases r3
              simp [keyM] at hkk
              subst hkk
              exact ⟨b, wr, rfl, t2⟩
          | _ => simp [keyM] at hm
        · have s2 : Stp φ1 H1 φ1 H2 := stp_tab (w1.hr.tab P hP) hb
          have hr2 : HR X.K φ1 xv.2 H2 := w1.hr.keep s2 fun a ha => hb.2 a fun z => by
            obtain ⟨us, e⟩ := w1.hr.dom a ha
            obtain ⟨ps, ep, _⟩ := w1.hr.tab P hP
            rw [z, ep] at e; cases e
          have ef : pick xs ((List.range vs.length).filter fun n => (xs.map (fun y => (keyM y).getD 0)).getD n 0 != t) = xs.filter fun y => keyM y != some t := by
            rw [rr.len]
            refine pick_filter xs _ _ fun n m hm => ?_
            have hms : (keyM m).isSome = true := List.all_eq_true.mp hk m (List.mem_of_getElem? hm)
            obtain ⟨km, hkm⟩ := Option.isSome_iff_exists.mp hms
            rw [List.getD_eq_getElem?_getD, List.getElem?_map, hm, hkm]
            have e0 : (Option.map (fun y => (keyM y).getD 0) (some m)).getD 0 = km := by simp [hkm]
            rw [e0]
            by_cases hc2 : km = t
            · subst hc2; simp
            · have e1 : (km == t) = false := by simpa using hc2
              have e2 : (some km == some t) = false := by simpa using hc2
              simp only [bne, e1, e2]
          have rv := rvs_pick rr ((List.range vs.length).filter fun n => (xs.map (fun y => (keyM y).getD 0)).getD n 0 != t) fun n hn => by
            have := (List.mem_filter.mp hn).1
            rw [rr.len] at this
            simpa using this
          rw [ef] at rv
          exact (q.on (s1.trans s2)).tup hr2 (RVs.mono s2 w1.hr.dom _ _ rv) (Nat.le_trans (List.length_filter_le _ _) z) p hp0
      · cases e2
    · cases e2
  · cases e2
end
end MP
namespace MP
open PySem PySem.Spec PyProof.Rows L2
section
variable {X : Cx} {K : Fra} {φ φ' φ1 φ2 : List Addr} {H H' H1 H2 : Hp} {h h' h1 h2 : MH} {v : V} {m : MV} {env : Env} {σ : L2.St}
theorem aE_of {e : Expr} {es : List Expr} {env : PySem.Env} (h : okX e = true) : assignEach (e :: es) env = (false, assign e env) :: assignEach es env := by
  cases e <;> first | rfl | cases h
theorem aE_len {c : Cc} {env : PySem.Env} : ∀ {xs : List Expr} {ts : List Tg}, chkTs c xs ts = true → (assignEach xs env).length = ts.length ∧ (assignEach xs env).findIdx? (·.1) = none
  | [], [], _ => ⟨rfl, rfl⟩
  | [], _ :: _, h => by simp [chkTs] at h
  | _ :: _, [], h => by simp [chkTs] at h
  | x :: xs, t :: ts, h => by
    simp only [chkTs, Bool.and_eq_true] at h
    obtain ⟨e1, e2⟩ := aE_len (env := env) h.2
    rw [aE_of h.1.1]
    refine ⟨congrArg (· + 1) e1, ?_⟩
    rw [List.findIdx?_cons]
    simp [e2]
theorem But.refl (ns : List Nat) (σ : L2.St) : But ns σ σ := ⟨rfl, fun _ _ => rfl⟩
theorem But.trans {a b : List Nat} {σ σ1 σ2 : L2.St} (p : But a σ σ1) (q : But b σ1 σ2) : But (a ++ b) σ σ2 :=
  ⟨q.1.trans p.1, fun j hj => (q.2 j fun z => hj (List.mem_append_right _ z)).trans (p.2 j fun z => hj (List.mem_append_left _ z))⟩
theorem But.mono {a b : List Nat} {σ σ1 : L2.St} (p : But a σ σ1) (h : ∀ i ∈ a, i ∈ b) : But b σ σ1 := ⟨p.1, fun j hj => p.2 j fun z => hj (h j z)⟩
mutual
theorem simT {g : Mod} {k : Nat} {c : Cc} (xr : XR g k X c) : ∀ (t : Tg) (tx : Expr), chkT c tx t = true → PG X tx (tTg X.K t)
  | .nm i, tx, h => by
    unfold chkT at h
    split at h
    · rename_i x _
      simp only [Bool.and_eq_true, Bool.or_eq_true, decide_eq_true_eq] at h
      obtain ⟨h1, h2⟩ := h
      have hx : L2.Loc X.env.scope x := by
        rw [xr.sc]
        rcases h2 with h2 | h2
        · exact .inl h2
        · exact .inr h2.1
      have hf : X.fn x = true ∨ X.env.scope.names.lookup x = some .local := by
        rcases h2 with h2 | h2
        · exact .inr (by rw [xr.sc]; exact h2)
        · exact .inl (by rw [xr.fn]; exact h2.2)
      refine (pg_name xr.nd (by rw [xr.hN]; exact h1) hx hf).imp fun v σ H Q hh => ?_
      obtain ⟨φ, m, env, env', rv, w, e, q⟩ := hh
      simp only [bindT] at e
      cases e
      refine q _ (w.set rv) ⟨List.length_set, fun j hj => ?_⟩
      rw [List.getElem?_set_ne]
      intro z; exact hj (by rw [← z]; exact List.mem_singleton.mpr rfl)
    · cases h
  | .tup ts, tx, h => by
    unfold chkT at h
    split at h
    · rename_i es _ _
      obtain ⟨e1, e2⟩ := aE_len (env := X.env) h
      refine (pg_tup xr.calm (simTs xr ts es h) e1 e2).imp fun v σ H Q hh => ?_
      obtain ⟨φ, m, env, env', rv, w, e, q⟩ := hh
      simp only [bindT] at e
      split at e
      · rename_i ms
        obtain ⟨a, vs, rfl, t, r, z⟩ := rv
        have hl : ∀ {ts : List Tg} {ms : List MV} {env env' : Env}, bindTs ts ms env = some env' → ms.length = ts.length := by
          intro ts
          induction ts with
          | nil => intro ms env env' e; cases ms <;> simp [bindTs] at e ⊢
          | cons t ts ih =>
            intro ms env env' e
            cases ms with
            | nil => simp [bindTs] at e
            | cons m ms =>
              simp only [bindTs, Option.bind_eq_some_iff] at e
              obtain ⟨e0, _, e⟩ := e
              exact congrArg (· + 1) (ih e)
        exact ⟨a, vs, rfl, t, by rw [r.len]; exact hl e, φ, ms, env, env', r, w, e, q⟩
      · cases e
    · cases h
theorem simTs {g : Mod} {k : Nat} {c : Cc} (xr : XR g k X c) : ∀ (ts : List Tg) (txs : List Expr), chkTs c txs ts = true → PGs X txs (tTgs X.K ts)
  | [], txs, h => by
    cases txs with
    | cons _ _ => simp [chkTs] at h
    | nil =>
      refine pgs_nil.imp fun v σ H Q hh => ?_
      obtain ⟨φ, ms, env, env', rv, w, e, q⟩ := hh
      cases ms with
      | cons _ _ => simp [bindTs] at e
      | nil =>
        cases rv
        simp only [bindTs] at e
        cases e
        exact ⟨rfl, q σ w (.refl _ _)⟩
  | t :: ts, txs, h => by
    cases txs with
    | nil => simp [chkTs] at h
    | cons tx txs =>
      simp only [chkTs, Bool.and_eq_true] at h
      refine (pgs_cons (simT xr t tx h.1.2) (simTs xr ts txs h.2) (by rw [aE_of h.1.1]; rfl)).imp fun v σ H Q hh => ?_
      obtain ⟨φ, ms, env, env', rv, w, e, q⟩ := hh
      cases ms with
      | nil => simp [bindTs] at e
      | cons m ms =>
        simp only [bindTs, Option.bind_eq_some_iff] at e
        obtain ⟨e0, f1, f2⟩ := e
        obtain ⟨u, us, rfl, r1, r2⟩ := rv
        exact ⟨u, us, rfl, φ, m, env, e0, r1, w, f1, fun σ1 w1 b1 => ⟨φ, ms, e0, env', r2, w1, f2, fun σ2 w2 b2 => q σ2 w2 (b1.trans b2)⟩⟩
end
theorem wipe_wipe (σ : L2.St) (vs : List Nat) : L2.wipe (L2.wipe σ vs) vs = L2.wipe σ vs :=
  But.wipe (ns := vs) ⟨wipe_length σ vs, fun j hj => But.wipe.wipe_out' hj⟩ fun _ h => h
theorem gc_flat {h : MH} {r : MV × MH} (hl : r.1.lt h.length) (hn : ∀ p, r.1 ≠ .ref p) : (gc h r).1 = r.1 := by
  unfold gc
  split
  · first | rfl | rw [if_pos hl]
  · rfl
theorem compL_len {tgt : Tg} {st : Its} {env : Env} {tst elt : Env → MH → R} : ∀ {xs acc : List MV} {h : MH} {r}, compL tgt st env tst elt xs acc h = some r → r.1.length ≤ acc.length + xs.length
  | [], acc, h, r, e => by
    simp only [compL] at e
    split at e
    · cases e; exact Nat.le_refl _
    · cases e
  | x :: xs, acc, h, r, e => by
    simp only [compL] at e
    split at e
    · simp only [Option.bind_eq_some_iff] at e
      obtain ⟨e0, _, b, _, e⟩ := e
      split at e
      · simp only [Option.bind_eq_some_iff] at e
        obtain ⟨y, _, e⟩ := e
        have := compL_len e
        simp only [List.length_append, List.length_cons, List.length_nil] at this ⊢
        omega
      · have := compL_len e
        simp only [List.length_cons]
        omega
      · cases e
    · cases e
/-- the state of a comprehension's walk at turn i -/
structure CompSt (K : Fra) (φ1 : List Addr) (H1 : Hp) (D : Addr) (st : Its) (t : Tg) (env : Env) (tst elt : Env → MH → R) (res : List MV × MH) (i : Nat) (H : Hp) : Prop where
  ex : ∃ φ2 h2 acc vs, Stp φ1 H1 φ2 H ∧ HR K φ2 h2 H ∧ D ∉ φ2 ∧ H D = some (.lst vs) ∧ RVs K φ2 H vs acc ∧ acc.length ≤ i ∧ compL t st env tst elt (st.items.drop i) acc h2 = some res
theorem sim_comp {c : Cc} {g : Mod} {k : Nat} (xr : XR g k X c) {ex2 : Expr} {gen : Comprehension} {scope : Scope} {pos : Pos} {t : Tg} {evi : Env → MH → Option (Its × MH)} {own : List (Str × Nat)} {et ee : Env → MH → R}
    (hpi : PI X gen.target gen.iter (tI X.K evi)) (hasy : gen.is_async = 0) (hok : okX gen.iter = true) (hblk : blkC c.N c.sc scope own = true) (ht : ∀ X', XR g k X' ⟨c.N, relS scope c.sc, fun x => scope.names.lookup x == some .cell, false⟩ → PG X' gen.target (tTg X'.K t))
    (hsl : ∀ i ∈ slotsT t, i ∈ own.map (·.2))
    (htst : ∀ X', XR g k X' ⟨c.N, relS scope c.sc, fun x => scope.names.lookup x == some .cell, false⟩ → PTs X' gen.ifs (tTv X'.K et))
    (helt : ∀ X', XR g k X' ⟨c.N, relS scope c.sc, fun x => scope.names.lookup x == some .cell, false⟩ → PE X' ex2 (tEv X'.K ee)) :
    ∃ tt, PE X (.ListComp ex2 [gen] scope pos) tt ∧ (∀ {i : Nat} {y : Str} {py spos : Pos}, X.N[i]? = some y → X.env.scope.names.lookup y = some .local → swapsWith (.ListComp ex2 [gen] scope pos) (some (.Name y py)) spos.line X.env = pure true → PS X (.Assign [.Name y py] (.ListComp ex2 [gen] scope pos) spos) (tAsg tt (gName i))) ∧
      ∀ σ H Q, tEv X.K (fun env h => (evi env h).bind fun q => (compL t q.1 (wipeM env (own.map (·.2))) (fun e h => (et e h).bind fun x => (truth x.2 x.1).map fun b => gc h (.bl b, x.2)) ee q.1.items [] q.2).map fun q => (.ref q.2.length, q.2 ++ [.lst q.1])) σ H Q → tt σ H Q := by
  obtain ⟨tgx, itx, ifx, asy⟩ := gen
  simp only at hasy hok ht htst hpi
  subst hasy
  have hN : X.N.Nodup := xr.nd
  have hb : BlkOk X.N X.env.scope scope own := blkOk_by (by rw [xr.hN, xr.sc]; exact hblk)
  refine ⟨tLc (tI X.K evi) (tTg X.K t) (tTv X.K et) (tEv X.K ee) (own.map (·.2)), pe_lc xr.calm hN hpi hb (fun s H C cl fp => ht _ (xr.blk s H scope C cl fp)) (fun s H C cl fp => htst _ (xr.blk s H scope C cl fp)) (fun s H C cl fp => helt _ (xr.blk s H scope C cl fp)) (folded_of hok),
    fun hi hy hsw => ps_setLc xr.calm hN hi hy hsw hpi hb (fun s H C cl fp => ht _ (xr.blk s H scope C cl fp)) (fun s H C cl fp => htst _ (xr.blk s H scope C cl fp)) (fun s H C cl fp => helt _ (xr.blk s H scope C cl fp)) (folded_of hok), fun σ H Q hh => ?_⟩
  obtain ⟨φ, hp, env, r, w, e, q⟩ := hh
  simp only [Option.bind_eq_some_iff, Option.map_eq_some_iff] at e
  obtain ⟨st, e1, res, e2, rfl⟩ := e
  refine ⟨φ, hp, env, st, w, e1, fun φ1 H1 J s1 hr1 wm D hD => ?_⟩
  obtain ⟨hzl, G, Y, wk, wG, wY⟩ := wm
  have w1 : EnvR X.K φ1 H1 env σ := w.er.mono (s1.wk w.hr.dom)
  refine lc_it wk (CompSt X.K φ1 H1 D st.1 t (wipeM env (own.map (·.2))) (fun e h => (et e h).bind fun x => (truth x.2 x.1).map fun b => gc h (.bl b, x.2)) ee res) ⟨φ1, st.2, [], [], stp_new hD, hr1.new hD, fun z => ?_, upd_same, rfl, Nat.le_refl _, e2⟩ (fun i H2 hi p => ?_) (fun i x H2 H3 hi p y => ?_) fun H2 p => ?_
  · obtain ⟨vs, hv⟩ := hr1.dom D z
    rw [hD] at hv; cases hv
  · -- what is walked stands
    obtain ⟨φ2, h2, acc, vs, p1, p2, p3, p4, p5, p6, p7⟩ := p.ex
    refine wG φ2 h2 H2 p1 p2 ?_
    cases hd : st.1.items.drop i with
    | nil =>
      rw [hd] at p7
      simp only [compL] at p7
      split at p7
      · assumption
      · cases p7
    | cons z zs =>
      rw [hd] at p7
      simp only [compL] at p7
      split at p7
      · assumption
      · cases p7
  · -- a turn
    obtain ⟨φ2, h2, acc, vs, p1, p2, p3, p4, p5, p6, p7⟩ := p.ex
    have hd : st.1.items.drop i = st.1.items[i] :: st.1.items.drop (i + 1) := List.drop_eq_getElem_cons hi
    rw [hd] at p7
    simp only [compL] at p7
    split at p7
    · rename_i hst
      simp only [Option.bind_eq_some_iff, Option.map_eq_some_iff] at p7
      obtain ⟨env1, f1, b, f2, f3⟩ := p7
      obtain ⟨m, g1, g2, g3, g4⟩ := wY i H2 x H3 φ2 h2 hi p1 p2 hst y
      rw [List.getElem?_eq_getElem hi] at g1
      cases g1
      have p1' := p1.trans g3
      have er2 : EnvR X.K φ2 H3 (wipeM env (own.map (·.2))) (L2.wipe σ (own.map (·.2))) := (w1.mono (p1'.wk hr1.dom)).wipe _
      have hD3 : H3 D = some (.lst vs) := g3.keep _ _ p4 p3 fun _ z => nomatch z
      have r5 : RVs X.K φ2 H3 vs acc := RVs.mono g3 p2.dom _ _ p5
      refine ⟨φ2, st.1.items[i], _, env1, g2, er2, f1, fun σ2 er3 bt => ⟨(bt.wipe hsl).trans (wipe_wipe _ _), ?_⟩⟩
      obtain ⟨xb, f4, c1, f5, f6⟩ := f2
      have ew3 : Ew X.K φ2 h2 env1 σ2 H3 := er3.ew g4
      refine ⟨φ2, h2, env1, xb, ew3, f4, c1, f5, fun φ4 H4 s4 hr4 => ?_⟩
      -- the test's rest is let go
      obtain ⟨φ5, s5, hr5, _⟩ := gc_ok (v := .bl c1) (r := (.bl c1, xb.2)) g4 s4 hr4 rfl
      rw [f6] at hr5
      have gb : b.1 = .bl c1 := by
        rw [← f6]
        exact gc_flat (by cases c1 <;> exact True.intro) (fun p z => nomatch z)
      have D5 : D ∉ φ5 := fun z => by
        rcases s5.new D z with z | z
        · exact p3 z
        · rw [hD3] at z; cases z
      have hD4 : H4 D = some (.lst vs) := s5.keep _ _ hD3 p3 fun _ z => nomatch z
      cases c1 with
      | false =>
        rw [gb] at f3
        simp only at f3
        rw [if_neg Bool.false_ne_true]
        exact ⟨φ5, b.2, acc, vs, p1'.trans s5, hr5, D5, hD4, RVs.mono s5 g4.dom _ _ r5, by omega, f3⟩
      | true =>
        rw [gb] at f3
        simp only [Option.bind_eq_some_iff] at f3
        rw [if_pos rfl]
        obtain ⟨xe, f7, f8⟩ := f3
        have ew5 : Ew X.K φ5 b.2 env1 σ2 H4 := (er3.mono (s5.wk g4.dom)).ew hr5
        refine ⟨φ5, b.2, env1, xe, ew5, f7, fun φ6 H6 y6 s6 hr6 rv6 => ?_⟩
        have s56 := s5.trans s6
        obtain ⟨φ7, s7, hr7, rv7⟩ := gc_ok g4 s56 hr6 rv6
        have D7 : D ∉ φ7 := fun z => by
          rcases s7.new D z with z | z
          · exact p3 z
          · rw [hD3] at z; cases z
        have hD6 : H6 D = some (.lst vs) := s7.keep _ _ hD3 p3 fun _ z => nomatch z
        have r7 : RVs X.K φ7 H6 vs acc := RVs.mono s7 g4.dom _ _ r5
        have hlen : (acc ++ [(gc h2 xe).1]).length ≤ i + 1 := by rw [List.length_append]; exact Nat.add_le_add_right p6 1
        refine ⟨vs, hD6, by rw [r7.len]; omega, ?_⟩
        have pk : Wk φ7 H6 φ7 (upd H6 D (.lst (vs ++ [y6]))) := wk_poke hD6
        refine ⟨φ7, (gc h2 xe).2, acc ++ [(gc h2 xe).1], vs ++ [y6], ?_, ?_, D7, upd_same, RVs.wk pk _ _ (r7.app (.one rv7)), hlen, f8⟩
        · have t := p1'.trans s7
          refine ⟨t.ext, fun a o ea na nt => ?_, fun a ps ea na => ?_, t.new⟩
          · have : a ≠ D := fun z => by rw [z, hD] at ea; cases ea
            rw [upd_ne this]
            exact t.keep a o ea na nt
          · have : a ≠ D := fun z => by rw [z, hD] at ea; cases ea
            rw [upd_ne this]
            exact t.tab a ps ea na
        · refine ⟨hr7.len, hr7.nd, fun P hP => ?_, fun j a o ej ho => ?_⟩
          · obtain ⟨ps, ep, tp⟩ := hr7.tab P hP
            exact ⟨ps, by rw [upd_ne (fun z => by rw [z, hD6] at ep; cases ep)]; exact ep, tp⟩
          have q0 := hr7.at_ j a o ej ho
          have : a ≠ D := fun z => D7 (by rw [← z]; exact List.mem_of_getElem? ej)
          cases o with
          | lst ys =>
            obtain ⟨ws, q1, q2, q3⟩ := q0
            exact ⟨ws, by rw [upd_ne this]; exact q1, RVs.wk pk _ _ q2, q3⟩
    · cases p7
  · -- the end
    obtain ⟨φ2, h2, acc, vs, p1, p2, p3, p4, p5, p6, p7⟩ := p.ex
    rw [List.drop_length] at p7
    simp only [compL] at p7
    split at p7
    · cases p7
      have hz : acc.length ≤ sizeLine := Nat.le_trans p6 hzl
      have s2 : Stp φ1 H1 (φ2 ++ [D]) H2 := ⟨by
          obtain ⟨l, el⟩ := p1.ext
          exact ⟨l ++ [D], by rw [el, List.append_assoc]⟩, p1.keep, p1.tab, fun a ha => by
          rcases List.mem_append.mp ha with z | z
          · exact p1.new a z
          · right; rw [List.mem_singleton.mp z]; exact hD⟩
      refine q (φ2 ++ [D]) H2 _ (s1.trans s2) ?_ ⟨D, ?_, rfl⟩
      · refine ⟨by simp [p2.len], ?_, p2.tab, fun j a o ej ho => ?_⟩
        · rw [List.nodup_append]
          refine ⟨p2.nd, by simp, fun a ha b hb => ?_⟩
          rw [List.mem_singleton.mp hb]
          intro z; rw [z] at ha; exact p3 ha
        · by_cases hj : j < φ2.length
          · rw [List.getElem?_append_left hj] at ej
            have ho : (h2 ++ [MO.lst acc])[j]? = some o := ho
            rw [List.getElem?_append_left (by rw [← p2.len]; exact hj)] at ho
            have q0 := p2.at_ j a o ej ho
            cases o with
            | lst ys =>
              obtain ⟨ws, q1, q2, q3⟩ := q0
              exact ⟨ws, q1, RVs.ext _ _ q2, q3⟩
          · have hj2 : j = φ2.length := by
              have := (List.getElem?_eq_some_iff.mp ej).1
              rw [List.length_append, List.length_singleton] at this
              omega
            subst hj2
            rw [List.getElem?_append_right (Nat.le_refl _), Nat.sub_self] at ej
            have ho : (h2 ++ [MO.lst acc])[φ2.length]? = some o := ho
            rw [List.getElem?_append_right (by rw [p2.len]; exact Nat.le_refl _), p2.len, Nat.sub_self] at ho
            cases ej; cases ho
            exact ⟨vs, p4, RVs.ext _ _ p5, hz⟩
      · show (φ2 ++ [D])[h2.length]? = some D
        rw [← p2.len, List.getElem?_append_right (Nat.le_refl _), Nat.sub_self]
        rfl
    · cases p7
end
end MP
namespace MP
open PySem PySem.Spec PyProof.Rows L2
section
variable {X : Cx} {K : Fra} {φ φ' φ1 φ2 : List Addr} {H H' H1 H2 : Hp} {h h' h1 h2 : MH} {v : V} {m : MV} {env : Env} {σ : L2.St}
theorem Sim.congr {ex : Expr} {ev ev' : Env → MH → R} (h : Sim X ex ev) (e : ∀ env h, ev' env h = ev env h) : Sim X ex ev' := by
  have : ev' = ev := funext fun a => funext fun b => e a b
  rw [this]; exact h
theorem gc_self {h : MH} {v : MV} (hl : v.lt h.length) : gc h (v, h) = (v, h) := by
  unfold gc
  rw [if_pos ⟨Nat.le_refl _, fun i o _ q => .inl q⟩, if_pos hl, List.take_length]
theorem evEs_one {g : Mod} {cf : Str → List MV → MH → R} {e : E} {env : Env} {h : MH} : evEs g cf [e] env h = (evE g cf e env h).map fun x => ([x.1], x.2) := by
  simp only [evEs]
  cases evE g cf e env h <;> rfl
theorem _root_.L2.PTs.imp {X : Cx} {e : List Expr} {t t' : TT} (h : PTs X e t) (k : ∀ σ H Q, t' σ H Q → t σ H Q) : PTs X e t' := ⟨fun pins s σ H Q I q => h.run pins s σ H Q I (k _ _ _ q)⟩
def allOk : List Expr → Prop
  | [] => True
  | x :: xs => okX x = true ∧ allOk xs
theorem okEs {g : Mod} {c : Cc} : ∀ {xs : List Expr} {es : List E}, chkEs g c xs es = true → allOk xs
  | [], _, _ => True.intro
  | x :: xs, [], h => by simp [chkEs] at h
  | x :: xs, e :: es, h => by
    simp only [chkEs, Bool.and_eq_true] at h
    exact ⟨okE h.1, okEs h.2⟩
/-- list(range(a, b)) -/
theorem sim_lr2 {g : Mod} {k : Nat} {c : Cc} (xr : XR g k X c) {a b : Expr} {e1 e2 : E} {p p2 pos pos2 : Pos} (hg : isGl c.sc "list" = true) (hg2 : isGl c.sc "range" = true) (h1 : okX a = true) (h2 : okX b = true) (ha : PE X a (tEv X.K (evE g (run g k) e1))) (hb : PE X b (tEv X.K (evE g (run g k) e2))) :
    PE X (.Call (.Name "list" p) [.Call (.Name "range" p2) [a, b] [] pos2] [] pos) (tEv X.K fun env h => (evEs g (run g k) [e1, e2] env h).bind fun r => (itsM .rng2 r.2 r.1).map fun st => (.ref r.2.length, r.2 ++ [.lst st.items])) := by
  refine (pe_listRg xr.calm (xr.gl hg) (xr.blt "list" (by decide +kernel)) (prg_2 (xr.gl hg2) (xr.blt "range" (by decide +kernel)) ha hb (star_of h1) (star_of h2) (by rw [star_of h2]; rfl)) rfl).imp fun σ H Q hh => ?_
  obtain ⟨φ, hp, env, r, w, f0, q⟩ := hh
  simp only [evEs, Option.bind_eq_some_iff, Option.map_eq_some_iff, Option.map_some] at f0
  obtain ⟨x, ⟨y, f1, f2⟩, st, f3, rfl⟩ := f0
  obtain ⟨z, ⟨y2, f4, f5⟩, rfl⟩ := f2
  cases f5
  refine go w f1 fun φ1 H1 v1 s1 w1 r1 => go w1 f4 fun φ2 H2 v2 s2 w2 r2 => ?_
  unfold itsM at f3
  simp only at f3
  split at f3
  · rename_i m n hn
    split at f3
    · rename_i hz
      cases f3
      have hn1 : y.1 = .int m := by injection hn
      have hn2 : y2.1 = .int n := by
        injection hn with _ hn
        injection hn
      rw [hn1] at r1
      rw [hn2] at r2
      cases r1; cases r2
      refine ⟨m, n, rfl, rfl, hz, ?_⟩
      refine (q.on (s1.trans s2)).lst w2.hr ?_ ?_
      · unfold rgV
        refine RVs.of (by simp) fun i x v h1 h2 => ?_
        rw [List.getElem?_map] at h1 h2
        simp only [Option.map_eq_some_iff] at h1 h2
        obtain ⟨a, h1, rfl⟩ := h1
        obtain ⟨b, h2, rfl⟩ := h2
        rw [h1] at h2
        cases h2
        rfl
      · rw [List.length_map, List.length_range]
        exact hz.2.2.2.2
    · cases f3
  · cases f3
/-- the iterable of a comprehension or a for, from its parts -/
theorem pi_of {g : Mod} {k : Nat} {c : Cc} (xr : XR g k X c) {c' : Cc} {t : Tg} {iter tg : Expr} {kk : IK} {es : List E} (hok : okX iter = true)
    (hc2 : chkI2 c kk t iter (fun xs => chkEs g c xs es) = true) (htg : chkT c' tg t = true)
    (h1 : ∀ e x, es = [e] → chkE g c x e = true → PE X x (tEv X.K (evE g (run g k) e))) (hA : ∀ xs, chkEs g c xs es = true → PA X xs (tEs X.K (evEs g (run g k) es))) :
    PI X tg iter (tI X.K fun env h => (evEs g (run g k) es env h).bind fun r => itsG kk h r) := by
  simp only [chkI2, Bool.and_eq_true] at hc2
  obtain ⟨hk, hc⟩ := hc2
  cases kk with
  | enum =>
    cases t with
    | nm i => cases hk
    | tup ts =>
      unfold chkT at htg
      split at htg
      · simp only [chkI] at hc
        split at hc
        · simp only [Bool.and_eq_true, decide_eq_true_eq] at hc
          obtain ⟨⟨rfl, h2⟩, h3⟩ := hc
          exact pi_en (xr.gl h2) (xr.blt "enumerate" (by decide +kernel)) (hA _ h3) (star_of (okEs h3).1)
        · cases hc
      · cases htg
  | ex =>
    have hc : chkEs g c [iter] es = true := hc
    cases es with
    | nil => simp [chkEs] at hc
    | cons e es =>
      cases es with
      | cons _ _ => simp [chkEs] at hc
      | nil =>
        simp only [chkEs, Bool.and_eq_true] at hc
        have := pi_ex (tg := tg) (h1 e iter rfl hc.1)
        have ee : (fun env h => (evEs g (run g k) [e] env h).bind fun r => itsG .ex h r) = fun env h => (evE g (run g k) e env h).bind fun r => itsG .ex h ([r.1], r.2) := by
          funext env h
          rw [evEs_one]
          cases evE g (run g k) e env h <;> rfl
        rw [ee]
        exact this
  | rng1 =>
    rcases chkR_of (show chkR c .rng1 iter (fun xs => chkEs g c xs es) = true from hc) with ⟨_, p, x, p2, rfl, h3, h4⟩ | ⟨z, _⟩
    · have ho := okEs h4
      exact pi_r1 (xr.gl h3) (xr.blt "range" (by decide +kernel)) (hA _ h4) (star_of ho.1)
    · cases z
  | rng2 =>
    rcases chkR_of (show chkR c .rng2 iter (fun xs => chkEs g c xs es) = true from hc) with ⟨z, _⟩ | ⟨_, p, x, y, p2, rfl, h3, h4⟩
    · cases z
    · have ho := okEs h4
      exact pi_r2 (xr.gl h3) (xr.blt "range" (by decide +kernel)) (hA _ h4) (by rw [star_of ho.1, star_of ho.2.1]; rfl) (star_of ho.2.1)
def SimF (g : Mod) (k : Nat) (e : E) : Prop := ∀ (ex : Expr) (c : Cc) (X : Cx), XR g k X c → chkE g c ex e = true → Sim X ex (evE g (run g k) e)
def SimL (g : Mod) (k : Nat) (es : List E) : Prop := ∀ e ∈ es, SimF g k e
theorem pa_all {g : Mod} {k : Nat} : ∀ (es : List E) (exs : List Expr) (c : Cc) (X : Cx), SimL g k es → XR g k X c → chkEs g c exs es = true → PA X exs (tEs X.K (evEs g (run g k) es))
  | [], exs, c, X, ih, xr, hc => by
    cases exs with
    | cons _ _ => simp [chkEs] at hc
    | nil =>
      refine pa_nil.imp fun σ H Q hh => ?_
      obtain ⟨φ, h, env, r, w, e, q⟩ := hh
      simp only [evEs] at e; cases e
      exact q φ H [] .refl w.hr rfl
  | e :: es, exs, c, X, ih, xr, hc => by
    cases exs with
    | nil => simp [chkEs] at hc
    | cons x xs =>
      simp only [chkEs, Bool.and_eq_true] at hc
      refine (pa_cons (ih e List.mem_cons_self x c X xr hc.1).pe (pa_all es xs c X (fun a ha => ih a (List.mem_cons_of_mem _ ha)) xr hc.2) (star_of (okE hc.1))).imp fun σ H Q hh => ?_
      obtain ⟨φ, h, env, r, w, e0, q⟩ := hh
      simp only [evEs, Option.bind_eq_some_iff, Option.map_eq_some_iff] at e0
      obtain ⟨y, e1, rs, e2, rfl⟩ := e0
      exact go w e1 fun φ1 H1 v1 s1 w1 r1 => goA w1 e2 fun φ2 H2 vs s2 w2 r2 => q φ2 H2 (v1 :: vs) (s1.trans s2) w2.hr ⟨v1, vs, rfl, RV.mono s2 w1.hr.dom _ _ r1, r2⟩
theorem pe_frzW {X : Cx} {ex : Expr} {ev : Env → MH → R} (h : PE X ex (tEv X.K ev)) : PE X ex (tEv X.K fun env h => (ev env h).bind (frzM h)) := by
  refine ⟨fun pins s σ H Q I hh => ?_⟩
  obtain ⟨φ, hp, env, r, w, e, q⟩ := hh
  simp only [Option.bind_eq_some_iff] at e
  obtain ⟨r0, e1, e2⟩ := e
  refine thn (h.run pins s σ H (fun v H' => (∃ d vs, v = .ref d ∧ H' d = some (.lst vs) ∧ ∀ od, Q v (upd H' d (.frz od (.lst vs)))) ∨ Q v H') I (go w e1 fun φ1 H1 v1 s1 w1 r1 => ?_)) fun v s1 ⟨x, H1, I2, r, q⟩ => ?_
  · rcases frz_ok w.hr s1 w1.hr r1 e2 with ⟨d, vs, rfl, hd, k⟩ | ⟨φ2, s2, hr2, rv2⟩
    · left
      exact ⟨d, vs, rfl, hd, fun od => q φ _ _ (k od).1 (k od).2.1 (k od).2.2⟩
    · right
      exact q φ2 H1 v1 s2 hr2 rv2
  · rcases q with ⟨d, vs, rfl, hd, k⟩ | q
    · obtain ⟨od, I3⟩ := I2.lock hd True.intro
      exact ⟨_, _, I3, r, k od⟩
    · exact ⟨x, H1, I2, r, q⟩
theorem ps_frz {X : Cx} {st : Stmt} {t : TS} (h : PS X st t) : PS X st (fun D σ H => t ⟨fun σ' H' => D.nx σ' H' ∨ ∃ d vs, H' d = some (.lst vs) ∧ ∀ od, D.nx σ' (upd H' d (.frz od (.lst vs))), D.rt, D.bk, D.ct⟩ σ H) := by
  refine ⟨fun pins s σ H D I hw => ?_⟩
  refine thn (h.run pins s σ _ _ I hw) fun f s1 q => ?_
  cases f with
  | next =>
    obtain ⟨σ', H', I2, q⟩ := q
    rcases q with q | ⟨d, vs, hd, q⟩
    · exact ⟨σ', H', I2, q⟩
    · obtain ⟨od, I3⟩ := I2.lock hd True.intro
      exact ⟨σ', _, I3, q od⟩
  | brk => exact q
  | cont => exact q
  | ret v => exact q
theorem comp_core {g : Mod} {k : Nat} {elt : E} {t : Tg} {kk : IK} {es cs : List E} {own : List (Str × Nat)} {c : Cc} (xr : XR g k X c) {ex : Expr} (hc : chkE g c ex (.comp elt t kk es cs own) = true) (ihs : SimL g k es) (ihc : SimL g k cs) (ihe : SimF g k elt) :
    ∃ ex2 gen scope pos tt, ex = .ListComp ex2 [gen] scope pos ∧ PE X ex tt ∧ (∀ {i : Nat} {y : Str} {py spos : Pos}, X.N[i]? = some y → X.env.scope.names.lookup y = some .local → swapsWith ex (some (.Name y py)) spos.line X.env = pure true → PS X (.Assign [.Name y py] ex spos) (tAsg tt (gName i))) ∧
      ∀ σ H Q, tEv X.K (evE g (run g k) (.comp elt t kk es cs own)) σ H Q → tt σ H Q := by
  simp only [chkE, Bool.and_eq_true] at hc
  obtain ⟨hokx, hc⟩ := hc
  split at hc
  · rename_i ex2 gen scope pos
    simp only [Bool.and_eq_true, decide_eq_true_eq] at hc
    obtain ⟨⟨⟨⟨⟨⟨⟨⟨⟨⟨⟨h1, h2⟩, h3⟩, h4⟩, h5⟩, h6⟩, h7⟩, h8⟩, h9⟩, h10⟩, h11⟩, h12⟩ := hc
    have hpi : PI X gen.target gen.iter (tI X.K fun env h => (evEs g (run g k) es env h).bind fun r => itsG kk h r) :=
      pi_of xr h2 h3 h6 (fun e x he hx => (ihs e (by rw [he]; exact List.mem_singleton.mpr rfl) x c X xr hx).pe) (fun xs hx => pa_all es xs c X ihs xr hx)
    have hsl : ∀ i ∈ slotsT t, i ∈ own.map (·.2) := fun i hi => by
      have := List.all_eq_true.mp h7 i hi
      simpa using this
    have ht : ∀ X', XR g k X' ⟨c.N, relS scope c.sc, fun x => scope.names.lookup x == some .cell, false⟩ → PG X' gen.target (tTg X'.K t) := fun X' x' => simT x' t _ h6
    have he : ∀ X', XR g k X' ⟨c.N, relS scope c.sc, fun x => scope.names.lookup x == some .cell, false⟩ → PE X' ex2 (tEv X'.K (evE g (run g k) elt)) := fun X' x' => (ihe _ _ X' x' h12).pe
    cases cs with
    | nil =>
      have hi : gen.ifs = [] := List.length_eq_zero_iff.mp h8
      have hT : ∀ X', XR g k X' ⟨c.N, relS scope c.sc, fun x => scope.names.lookup x == some .cell, false⟩ → PTs X' gen.ifs (tTv X'.K fun _ h => some (.bl true, h)) := fun X' x' => by
        rw [hi]
        refine pts_nil.imp fun σ H Q hh => ?_
        obtain ⟨φ, h, env, r, w, e, b, t, q⟩ := hh
        cases e; cases t
        exact q φ H .refl w.hr
      obtain ⟨tt, p1, p2, p3⟩ := sim_comp (pos := pos) xr hpi h1 h2 h4 ht hsl hT he
      refine ⟨ex2, gen, scope, pos, tt, rfl, p1, p2, fun σ H Q hh => p3 σ H Q ?_⟩
      have ev : evE g (run g k) (.comp elt t kk es [] own) = fun env h => ((evEs g (run g k) es env h).bind fun r => itsG kk h r).bind fun q => (compL t q.1 (wipeM env (own.map (·.2))) (fun e h => ((some (MV.bl true, h) : R)).bind fun x => (truth x.2 x.1).map fun b => gc h (.bl b, x.2)) (evE g (run g k) elt) q.1.items [] q.2).map fun q => (.ref q.2.length, q.2 ++ [.lst q.1]) := by
        funext env h
        simp only [evE]
        have e1 : (fun (e : Env) (h : MH) => (some (MV.bl true, h) : R)) = fun e h => ((some (MV.bl true, h) : R)).bind fun x => (truth x.2 x.1).map fun b => gc h (.bl b, x.2) := by
          funext e h
          show some (MV.bl true, h) = some (gc h (.bl true, h))
          rw [gc_self (v := .bl true) (by unfold MV.lt; exact True.intro)]
        rw [e1]
        cases evEs g (run g k) es env h <;> rfl
      rw [ev] at hh
      exact hh
    | cons c1 cs =>
      have hcs : cs = [] := by
        simp only [List.length_cons] at h9
        exact List.length_eq_zero_iff.mp (by omega)
      subst hcs
      obtain ⟨ix, hi⟩ : ∃ ix, gen.ifs = [ix] := by
        cases hg : gen.ifs with
        | nil => rw [hg] at h8; cases h8
        | cons a r =>
          cases r with
          | nil => exact ⟨a, rfl⟩
          | cons _ _ => rw [hg] at h8; simp at h8
      have hT : ∀ X', XR g k X' ⟨c.N, relS scope c.sc, fun x => scope.names.lookup x == some .cell, false⟩ → PTs X' gen.ifs (tTv X'.K (evE g (run g k) c1)) := fun X' x' => by
        rw [hi] at h10 h11 ⊢
        simp only [chkEs, Bool.and_eq_true] at h11
        simp only [List.all_cons, Bool.and_eq_true] at h10
        exact pts_one ((ihc c1 List.mem_cons_self ix _ X' x' h11.1).pt h10.1)
      obtain ⟨tt, p1, p2, p3⟩ := sim_comp (pos := pos) xr hpi h1 h2 h4 ht hsl hT he
      refine ⟨ex2, gen, scope, pos, tt, rfl, p1, p2, fun σ H Q hh => p3 σ H Q ?_⟩
      have ev : evE g (run g k) (.comp elt t kk es [c1] own) = fun env h => ((evEs g (run g k) es env h).bind fun r => itsG kk h r).bind fun q => (compL t q.1 (wipeM env (own.map (·.2))) (fun e h => (evE g (run g k) c1 e h).bind fun x => (truth x.2 x.1).map fun b => gc h (.bl b, x.2)) (evE g (run g k) elt) q.1.items [] q.2).map fun q => (.ref q.2.length, q.2 ++ [.lst q.1]) := by
        funext env h
        simp only [evE]
        cases evEs g (run g k) es env h <;> rfl
      rw [ev] at hh
      exact hh
  · cases hc
mutual
theorem simE {g : Mod} {k : Nat} : ∀ (e : E), SimF g k e
  | .var i, ex, c, X, xr, hc => by
    simp only [chkE, Bool.and_eq_true] at hc
    obtain ⟨hokx, hc⟩ := hc
    split at hc
    · rename_i x _
      simp only [Bool.and_eq_true, decide_eq_true_eq] at hc
      refine .of ((pe_var (i := i) (by rw [xr.hN]; exact hc.1.1) (by rw [xr.sc]; exact isVis_of hc.1.2) (okN_d hc.2).1 (okN_d hc.2).2).imp fun σ H Q hh => ?_) rfl
      obtain ⟨φ, h, env, r, w, e, q⟩ := hh
      simp only [evE] at e
      split at e
      · rename_i m hm
        cases e
        obtain ⟨v, e1, e2⟩ := w.at_ i m hm
        exact ⟨v, e1, q.now w.hr e2⟩
      · cases e
    · cases hc
  | .non, ex, c, X, xr, hc => by
    simp only [chkE, Bool.and_eq_true] at hc
    obtain ⟨hokx, hc⟩ := hc
    split at hc
    · refine .of (pe_non.imp fun σ H Q hh => ?_) rfl
      obtain ⟨φ, h, env, r, w, e, q⟩ := hh
      simp only [evE] at e; cases e
      exact q.now w.hr rfl
    · cases hc
  | .bl b, ex, c, X, xr, hc => by
    simp only [chkE, Bool.and_eq_true] at hc
    obtain ⟨hokx, hc⟩ := hc
    split at hc
    · have hc := eq_of_beq hc
      subst hc
      refine .of (pe_bl.imp fun σ H Q hh => ?_) rfl
      obtain ⟨φ, h, env, r, w, e, q⟩ := hh
      simp only [evE] at e; cases e
      exact q.now w.hr rfl
    · cases hc
  | .int b, ex, c, X, xr, hc => by
    simp only [chkE, Bool.and_eq_true] at hc
    obtain ⟨hokx, hc⟩ := hc
    split at hc
    · have hc := eq_of_beq hc
      subst hc
      refine .of (pe_int.imp fun σ H Q hh => ?_) rfl
      obtain ⟨φ, h, env, r, w, e, q⟩ := hh
      simp only [evE] at e; cases e
      exact q.now w.hr rfl
    · cases hc
  | .str b, ex, c, X, xr, hc => by
    simp only [chkE, Bool.and_eq_true] at hc
    obtain ⟨hokx, hc⟩ := hc
    split at hc
    · simp only [Bool.and_eq_true, decide_eq_true_eq] at hc
      obtain ⟨rfl, hl⟩ := hc
      refine .of (pe_str.imp fun σ H Q hh => ?_) rfl
      obtain ⟨φ, h, env, r, w, e, q⟩ := hh
      simp only [evE] at e; cases e
      exact q.now w.hr ⟨rfl, Nat.le_trans hl (by decide)⟩
    · cases hc
  | .glob x, ex, c, X, xr, hc => by
    simp only [chkE, Bool.and_eq_true] at hc
    obtain ⟨hokx, hc⟩ := hc
    split at hc
    · simp only [Bool.and_eq_true, decide_eq_true_eq] at hc
      obtain ⟨⟨rfl, hg⟩, hn⟩ := hc
      cases hx : g.cns.lookup x with
      | none =>
        refine .of (PE.imp (t := fun _ _ _ => False) ⟨fun _ _ _ _ _ _ z => z.elim⟩ fun σ H Q hh => ?_) rfl
        obtain ⟨φ, h, env, r, w, e, q⟩ := hh
        simp only [evE, hx] at e; cases e
      | some m =>
        obtain ⟨u, w0, e1, e2, e3⟩ := xr.cns x m hx
        refine .of ((pe_glob (xr.gl hg) e1 e2 (okN_d hn).1).imp fun σ H Q hh => ?_) rfl
        obtain ⟨φ, h, env, r, w, e, q⟩ := hh
        simp only [evE, hx] at e; cases e
        exact q.now w.hr (by have := RV.ext (l := φ) _ _ (e3 H); rwa [List.nil_append] at this)
    · cases hc
  | .tup es, ex, c, X, xr, hc => by
    simp only [chkE, Bool.and_eq_true] at hc
    obtain ⟨hokx, hc⟩ := hc
    split at hc
    · simp only [Bool.and_eq_true, decide_eq_true_eq] at hc
      have ih := pa_all es _ c X (simAll es) xr hc.1
      refine (Sim.of (sim_tup ih fun env h r e => ?_) rfl).congr fun env h => by simp only [evE]
      rw [evEs_len e, ← chkEs_len hc.1]
      exact Nat.le_trans hc.2 (by decide)
    · cases hc
  | .lst es, ex, c, X, xr, hc => by
    simp only [chkE, Bool.and_eq_true] at hc
    obtain ⟨hokx, hc⟩ := hc
    split at hc
    · simp only [Bool.and_eq_true, decide_eq_true_eq] at hc
      have ih := pa_all es _ c X (simAll es) xr hc.1
      refine (Sim.of (sim_lst ih fun env h r e => ?_) rfl).congr fun env h => by simp only [evE]
      rw [evEs_len e, ← chkEs_len hc.1]
      exact Nat.le_trans hc.2 (by decide)
    · cases hc
  | .bin o a b, ex, c, X, xr, hc => by
    simp only [chkE, Bool.and_eq_true] at hc
    obtain ⟨hokx, hc⟩ := hc
    split at hc
    · simp only [Bool.and_eq_true, decide_eq_true_eq] at hc
      obtain ⟨⟨rfl, h1⟩, h2⟩ := hc
      exact (Sim.of (sim_op (simE a _ c X xr h1).pe (simE b _ c X xr h2).pe) rfl).congr fun env h => by simp only [evE]
    · cases hc
  | .neg a, ex, c, X, xr, hc => by
    simp only [chkE, Bool.and_eq_true] at hc
    obtain ⟨hokx, hc⟩ := hc
    split at hc
    · exact (sim_neg (simE a _ c X xr hc).pe).congr fun env h => by simp only [evE]
    · cases hc
  | .cmp o a b, ex, c, X, xr, hc => by
    simp only [chkE, Bool.and_eq_true] at hc
    obtain ⟨hokx, hc⟩ := hc
    split at hc
    · simp only [Bool.and_eq_true, decide_eq_true_eq] at hc
      obtain ⟨⟨rfl, h1⟩, h2⟩ := hc
      exact (sim_cmp xr (simE a _ c X xr h1).pe (simE b _ c X xr h2).pe (okE h2)).congr fun env h => by simp only [evE]
    · cases hc
  | .chain o1 o2 a b d, ex, c, X, xr, hc => by
    simp only [chkE, Bool.and_eq_true] at hc
    obtain ⟨hokx, hc⟩ := hc
    split at hc
    · simp only [Bool.and_eq_true, decide_eq_true_eq] at hc
      obtain ⟨⟨⟨⟨rfl, rfl⟩, h1⟩, h2⟩, h3⟩ := hc
      exact (sim_chain xr (simE a _ c X xr h1).pe (simE b _ c X xr h2).pe (simE d _ c X xr h3).pe (okE h3)).congr fun env h => by simp only [evE]
    · cases hc
  | .and a b, ex, c, X, xr, hc => by
    simp only [chkE, Bool.and_eq_true] at hc
    obtain ⟨hokx, hc⟩ := hc
    split at hc
    · rename_i x y pos
      simp only [Bool.and_eq_true] at hc
      have sa := simE a _ c X xr hc.1.2
      have sb := simE b _ c X xr hc.2
      have P : PE X (.BoolOp .And [x, y] pos) (tEv X.K (andF (evE g (run g k) a) (evE g (run g k) b))) := and_pe sa.pe (pe_one sb.pe)
      have W : PW X (.BoolOp .And [x, y] pos) (tTv X.K (andF (evE g (run g k) a) (evE g (run g k) b))) := and_pw (sa.pt hc.1.1.1) (pw_and1 (sb.pt hc.1.1.2))
      exact Sim.congr ⟨P, fun _ => W.pt, fun _ => W⟩ fun env h => by simp only [evE, andF]
    · rename_i x y z r pos
      simp only [Bool.and_eq_true] at hc
      have sa := simE a _ c X xr hc.1.2
      have sb := simE b _ c X xr hc.2
      have P : PE X (.BoolOp .And (x :: y :: z :: r) pos) (tEv X.K (andF (evE g (run g k) a) (evE g (run g k) b))) := and_pe sa.pe sb.pe
      have W : PW X (.BoolOp .And (x :: y :: z :: r) pos) (tTv X.K (andF (evE g (run g k) a) (evE g (run g k) b))) := and_pw (sa.pt hc.1.1) (sb.pw rfl)
      exact Sim.congr ⟨P, fun _ => W.pt, fun _ => W⟩ fun env h => by simp only [evE, andF]
    · cases hc
  | .or a b, ex, c, X, xr, hc => by
    simp only [chkE, Bool.and_eq_true] at hc
    obtain ⟨hokx, hc⟩ := hc
    split at hc
    · rename_i x y pos
      simp only [Bool.and_eq_true] at hc
      have sa := simE a _ c X xr hc.1.2
      have sb := simE b _ c X xr hc.2
      have P : PE X (.BoolOp .Or [x, y] pos) (tEv X.K (orF (evE g (run g k) a) (evE g (run g k) b))) := or_pe sa.pe (pe_one sb.pe)
      have W : PW X (.BoolOp .Or [x, y] pos) (tTv X.K (orF (evE g (run g k) a) (evE g (run g k) b))) := or_pw (sa.pt hc.1.1.1) (pw_or1 (sb.pt hc.1.1.2))
      exact Sim.congr ⟨P, fun _ => W.pt, fun _ => W⟩ fun env h => by simp only [evE, orF]
    · rename_i x y z r pos
      simp only [Bool.and_eq_true] at hc
      have sa := simE a _ c X xr hc.1.2
      have sb := simE b _ c X xr hc.2
      have P : PE X (.BoolOp .Or (x :: y :: z :: r) pos) (tEv X.K (orF (evE g (run g k) a) (evE g (run g k) b))) := or_pe sa.pe sb.pe
      have W : PW X (.BoolOp .Or (x :: y :: z :: r) pos) (tTv X.K (orF (evE g (run g k) a) (evE g (run g k) b))) := or_pw (sa.pt hc.1.1) (sb.pw rfl)
      exact Sim.congr ⟨P, fun _ => W.pt, fun _ => W⟩ fun env h => by simp only [evE, orF]
    · cases hc
  | .not a, ex, c, X, xr, hc => by
    simp only [chkE, Bool.and_eq_true] at hc
    obtain ⟨hokx, hc⟩ := hc
    split at hc
    · simp only [Bool.and_eq_true] at hc
      have sa := simE a _ c X xr hc.2
      exact (sim_not sa.pe sa.pt hc.1).congr fun env h => by simp only [evE]
    · cases hc
  | .ife d a b, ex, c, X, xr, hc => by
    simp only [chkE, Bool.and_eq_true] at hc
    obtain ⟨hokx, hc⟩ := hc
    split at hc
    · simp only [Bool.and_eq_true] at hc
      exact (sim_ife ((simE d _ c X xr hc.1.1.1).pt hc.1.1.2) (simE a _ c X xr hc.1.2).pe (simE b _ c X xr hc.2).pe).congr fun env h => by simp only [evE]
    · cases hc
  | .idx a i, ex, c, X, xr, hc => by
    simp only [chkE, Bool.and_eq_true] at hc
    obtain ⟨hokx, hc⟩ := hc
    split at hc
    · simp only [Bool.and_eq_true] at hc
      exact (Sim.of (sim_idx (simE a _ c X xr hc.1).pe (simE i _ c X xr hc.2).pe (okE hc.2)) rfl).congr fun env h => by simp only [evE]
    · cases hc
  | .slice a lo hi, ex, c, X, xr, hc => by
    simp only [chkE, Bool.and_eq_true] at hc
    obtain ⟨hokx, hc⟩ := hc
    split at hc
    · rename_i x l u p2 pos
      simp only [Bool.and_eq_true] at hc
      obtain ⟨⟨h1, h2⟩, h3⟩ := hc
      have pl : PO X l (tPo X.K lo.isNon (evE g (run g k) lo)) := po_of (fun y hy => by
        subst hy
        simp only [Bool.and_eq_true, Bool.not_eq_true'] at h2
        exact ⟨h2.1, (simE lo y c X xr h2.2).pe⟩) (fun hy => by subst hy; exact h2)
      have pu : PO X u (tPo X.K hi.isNon (evE g (run g k) hi)) := po_of (fun y hy => by
        subst hy
        simp only [Bool.and_eq_true, Bool.not_eq_true'] at h3
        exact ⟨h3.1, (simE hi y c X xr h3.2).pe⟩) (fun hy => by subst hy; exact h3)
      exact (Sim.of (sim_slice (simE a _ c X xr h1).pe pl pu) rfl).congr fun env h => by simp only [evE]
    · cases hc
  | .call f es, ex, c, X, xr, hc => by
    simp only [chkE, Bool.and_eq_true] at hc
    obtain ⟨hokx, hc⟩ := hc
    split at hc
    · simp only [Bool.and_eq_true, decide_eq_true_eq] at hc
      obtain ⟨⟨⟨⟨rfl, h1⟩, h2⟩, h3⟩, h4⟩ := hc
      exact (Sim.of (sim_call xr h1 h2 h3 h4 (pa_all es _ c X (simAll es) xr h4)) rfl).congr fun env h => by simp only [evE]
    · cases hc
  | .bi f es, ex, c, X, xr, hc => by
    simp only [chkE, Bool.and_eq_true] at hc
    obtain ⟨hokx, hc⟩ := hc
    split at hc
    · rename_i x p xs pos
      simp only [Bool.and_eq_true, decide_eq_true_eq] at hc
      obtain ⟨⟨⟨rfl, h1⟩, h2⟩, h3⟩ := hc
      cases xs with
      | nil => cases h2
      | cons y ys => exact (Sim.of (sim_bi xr h1 h3 (pa_all es _ c X (simAll es) xr h3)) rfl).congr fun env h => by simp only [evE]
    · cases hc
  | .isi a t, ex, c, X, xr, hc => by
    simp only [chkE, Bool.and_eq_true] at hc
    obtain ⟨hokx, hc⟩ := hc
    split at hc
    · simp only [Bool.and_eq_true, decide_eq_true_eq] at hc
      obtain ⟨⟨⟨⟨rfl, h1⟩, rfl⟩, h2⟩, h3⟩ := hc
      exact (Sim.of (sim_isi xr h1 h2 (okE h3) (simE a _ c X xr h3).pe) rfl).congr fun env h => by simp only [evE]
    · cases hc
  | .meth m o es, ex, c, X, xr, hc => by
    simp only [chkE, Bool.and_eq_true] at hc
    obtain ⟨hokx, hc⟩ := hc
    split at hc
    · simp only [Bool.and_eq_true, decide_eq_true_eq] at hc
      obtain ⟨⟨⟨⟨⟨rfl, h1⟩, h2⟩, h3⟩, h4⟩, h5⟩ := hc
      exact (Sim.of (sim_meth xr h1 h2 h3 (simE o _ c X xr h4).pe h5 (pa_all es _ c X (simAll es) xr h5)) rfl).congr fun env h => by simp only [evE]
    · cases hc
  | .comp elt t kk es cs own, ex, c, X, xr, hc => by
    obtain ⟨ex2, gen, scope, pos, tt, rfl, p1, p2, p3⟩ := comp_core xr hc (simAll es) (simAll cs) (simE elt)
    exact Sim.of (p1.imp p3) rfl
  | .frz a, ex, c, X, xr, hc => by
    simp only [chkE, Bool.and_eq_true] at hc
    obtain ⟨hokx, ⟨hp, _⟩, hc⟩ := hc
    exact (Sim.of (pe_frzW (simE a ex c X xr hc).pe) hp).congr fun env h => by simp only [evE]
  | .back a, ex, c, X, xr, hc => by
    simp only [chkE, Bool.and_eq_true] at hc
    obtain ⟨hokx, hc⟩ := hc
    split at hc
    · simp only [Bool.and_eq_true, decide_eq_true_eq] at hc
      obtain ⟨rfl, h1⟩ := hc
      exact (Sim.of (sim_back (simE a _ c X xr h1).pe) rfl).congr fun env h => by simp only [evE]
    · cases hc
  | .lenset a, ex, c, X, xr, hc => by
    simp only [chkE, Bool.and_eq_true] at hc
    obtain ⟨hokx, hc⟩ := hc
    split at hc
    · simp only [Bool.and_eq_true, decide_eq_true_eq] at hc
      obtain ⟨⟨⟨⟨rfl, rfl⟩, h1⟩, h2⟩, h3⟩ := hc
      exact (Sim.of (sim_lenset xr h1 h2 (okE h3) (simE a _ c X xr h3).pe) rfl).congr fun env h => by simp only [evE]
    · cases hc
  | .gflt i a, ex, c, X, xr, hc => by
    simp only [chkE, Bool.and_eq_true] at hc
    obtain ⟨hokx, hc⟩ := hc
    split at hc
    · simp only [Bool.and_eq_true, decide_eq_true_eq] at hc
      obtain ⟨⟨⟨⟨⟨⟨⟨⟨⟨⟨⟨⟨⟨h1, rfl⟩, h2⟩, rfl⟩, rfl⟩, rfl⟩, rfl⟩, h3⟩, h4⟩, h5⟩, h6⟩, h7⟩, h8⟩, h9⟩ := hc
      exact (Sim.of (sim_gf xr h1 h2 h3 h4 h5 h6 h7 h8 (simE a _ c X xr h9).pe) rfl).congr fun env h => by simp only [evE]
    · cases hc
  | .lrng kk es, ex, c, X, xr, hc => by
    simp only [chkE, Bool.and_eq_true] at hc
    obtain ⟨hokx, hc⟩ := hc
    split at hc
    · simp only [Bool.and_eq_true, decide_eq_true_eq] at hc
      obtain ⟨⟨rfl, h1⟩, h2⟩ := hc
      rcases chkR_of h2 with ⟨rfl, p, x, p2, rfl, h3, h4⟩ | ⟨rfl, p, x, y, p2, rfl, h3, h4⟩
      · refine (Sim.of (sim_lr1 (es := es) xr h1 h3 h4 fun e he => ?_) rfl).congr fun env h => by simp only [evE]
        have hx : chkE g c x e = true := by
          rw [he] at h4
          simp only [chkEs, Bool.and_eq_true] at h4
          exact h4.1
        exact (simAll es e (by rw [he]; exact List.mem_singleton.mpr rfl) _ c X xr hx).pe
      · have ih := simAll (g := g) (k := k) es
        cases es with
        | nil => simp [chkEs] at h4
        | cons e1 es =>
          cases es with
          | nil => simp [chkEs] at h4
          | cons e2 es =>
            cases es with
            | cons _ _ => simp [chkEs] at h4
            | nil =>
              simp only [chkEs, Bool.and_eq_true] at h4
              exact (Sim.of (sim_lr2 xr h1 h3 (okE h4.1) (okE h4.2.1) (ih e1 (by simp) _ c X xr h4.1).pe (ih e2 (by simp) _ c X xr h4.2.1).pe) rfl).congr fun env h => by simp only [evE]
    · cases hc
theorem simAll {g : Mod} {k : Nat} : ∀ (es : List E), SimL g k es
  | [] => fun e he => by simp at he
  | e :: es => fun a ha => by
    rcases List.mem_cons.mp ha with z | z
    · rw [z]; exact simE e
    · exact simAll es a z
end
end
end MP
namespace MP
open PySem PySem.Spec PyProof.Rows L2
open Sem (wp)
open AutoSeq1 (wpAny_loadPart')
section
variable {pg : Program} {wd : World} {Ar : Around} {Er : Value → Shared → Prop}
theorem setsl {L N sl : Addr} {xs ys : Array Value} {n m : Nat} {lo hi : Int} {u1 u2 : Tok} {u : Shared} {Rr : Shared → Prop} (h0 : 0 ≤ lo) (h1 : lo ≤ hi) (h2 : hi ≤ xs.size) (hne : L ≠ N) (hz : xs.size + ys.size ≤ sizeLine)
    (hl : u.heap.get? L = some { cls := .type "list", dict := none, data := .seq xs n, slots := #[] }) (hs : u.heap.get? sl = some { cls := .type "slice", dict := none, data := .fields #[.int lo u1, .int hi u2, .none], slots := #[] })
    (hn : u.heap.get? N = some { cls := .type "list", dict := none, data := .seq ys m, slots := #[] })
    (hR : Rr { u with heap := u.heap.update L (Obj.mapSeq fun xs => xs.extract 0 lo.toNat ++ ys ++ xs.extract (max lo hi).toNat) }) :
    wpAny (model pg wd) Ar (Builtin.«list.__setitem__» ⟨[.ref L, .ref sl, .ref N], []⟩) (fun fin s' => ∃ v, fin = .done (.ret v) ∧ Rr s') Er u := by
    obtain ⟨hh, gs, dr, tt, ot⟩ := u
    have hi1 : typeLookup (.type "slice") (Str.ofString "__index__") = pure none := by kernel_rfl
    have hi2 : typeLookup (.type "int") (Str.ofString "__index__") = pure (some (.builtin "int.__index__")) := by kernel_rfl
    have hne2 : (L == N) = false := by simpa using hne
    wp_walk using wpAny_loadPart' hl, wpAny_loadPart' hs, wpAny_loadPart' hn
    have hsr : Builtin.List.listSameRef (.ref L) (.ref N) = false := hne2
    rw [if_neg (by rw [hsr]; decide)]
    wp_walk using wpAny_loadPart' hl, wpAny_loadPart' hs, wpAny_loadPart' hn
    have hlong : Builtin.List.listTooLong (xs.size + ys.size) = false := by
      unfold Builtin.List.listTooLong
      exact decide_eq_false (Nat.not_lt.mpr hz)
    rw [if_neg (by rw [hlong]; decide)]
    have e1 : max 0 (min (if lo < 0 then lo + (xs.size : Int) else lo) xs.size) = lo := by
      rw [if_neg (by omega)]; omega
    have e2 : max 0 (min (if hi < 0 then hi + (xs.size : Int) else hi) xs.size) = hi := by
      rw [if_neg (by omega)]; omega
    simp only [e1, e2]
    wp_walk using wpAny_loadPart' hl, wpAny_loadPart' hs, wpAny_loadPart' hn
    have hpl : (Obj.mapSeq (fun xs => xs.extract 0 lo.toNat ++ ys ++ xs.extract (max lo hi).toNat) { cls := Value.type "list", data := Data.seq xs n }).data.pastItsLine = none := by
      refine pastItsLine_seq ?_
      simp only [Array.size_append, Array.size_extract]
      omega
    rw [hpl]
    refine wpAny_pure ?_
    wp_walk using wpAny_loadPart' hl, wpAny_loadPart' hs, wpAny_loadPart' hn
    exact ⟨_, rfl, hR⟩
end
section
variable {X : Cx}
theorem cut_in (its ys : List Value) (lo hi : Int) (n : Nat) (h1 : lo ≤ hi) : ∃ n', Obj.mapSeq (fun xs => xs.extract 0 lo.toNat ++ ys.toArray ++ xs.extract (max lo hi).toNat) { cls := .type "list", data := .seq its.toArray n } = { cls := .type "list", data := .seq (its.take lo.toNat ++ ys ++ its.drop hi.toNat).toArray n' } := by
  have : (max lo hi) = hi := by omega
  have e : (its.toArray.extract 0 lo.toNat ++ ys.toArray ++ its.toArray.extract hi.toNat) = (its.take lo.toNat ++ ys ++ its.drop hi.toNat).toArray := by
    simp
    exact List.take_of_length_le (by simp)
  rw [this]
  unfold Obj.mapSeq
  have gen : ∀ (A B : Array Value) (c : Nat), A = B → ∃ n', ({ cls := .type "list", data := .seq A c } : Obj) = { cls := .type "list", data := .seq B n' } := by
    rintro A _ c rfl
    exact ⟨c, rfl⟩
  exact gen _ _ _ e
theorem Vals.take' {vs : List V} {us : List Value} (r : Vals vs us) : ∀ n : Nat, Vals (vs.take n) (us.take n) ∧ Vals (vs.drop n) (us.drop n) := by
  induction r with
  | nil => intro n; simp; exact .nil
  | cons a b ih =>
    intro n
    cases n with
    | zero => exact ⟨.nil, .cons a b⟩
    | succ n => exact ⟨.cons a (ih n).1, (ih n).2⟩
theorem Vals.app' {vs ws : List V} {us zs : List Value} (r : Vals vs us) (q : Vals ws zs) : Vals (vs ++ ws) (us ++ zs) := by
  induction r with
  | nil => exact q
  | cons a b ih => exact .cons a ih
/-- o[lo:hi] = v, two lists -/
def gSl (lo hi : Int) (to : TE) : TG := fun v σ H Q => to σ H fun o H1 => ∃ (L N : Addr) (xs ys : List V), o = V.ref L ∧ v = V.ref N ∧ L ≠ N ∧ H1 L = some (.lst xs) ∧ H1 N = some (.lst ys) ∧ 0 ≤ lo ∧ lo ≤ hi ∧ hi ≤ xs.length ∧ xs.length + ys.length ≤ sizeLine ∧
  Q σ (upd H1 L (.lst (xs.take lo.toNat ++ ys ++ xs.drop hi.toNat)))
theorem pg_sl {o : Expr} {to : TE} {lo hi : Int} {j1 j2 : Nat} {p1 p2 p3 pos : Pos} (ho : PE X o to) :
    PG X (.Subscript o (.Slice (some (.Constant (.int lo) j1 p1)) (some (.Constant (.int hi) j2 p2)) none p3) pos) (gSl lo hi to) := by
  constructor
  intro pins s σ H v u Q I r h
  have ha : assign (.Subscript o (.Slice (some (.Constant (.int lo) j1 p1)) (some (.Constant (.int hi) j2 p2)) none p3) pos) X.env u = (do
      let ov ← holding [u] (eval o X.env)
      let iv ← holding [u, ov] (eval (.Slice (some (.Constant (.int lo) j1 p1)) (some (.Constant (.int hi) j2 p2)) none p3) X.env)
      standAt pos
      holding [u, ov, iv] (setItem ov iv u)
      release [iv, u, ov] []) := rfl
  rw [ha]
  refine wpAny_bind (wpAny_holding (thn (ho.run pins s σ H _ I h) fun ov s1 ⟨x, H1, J, r1, L, N, xs, ys, e1, e2, hne, hL, hN, h0, h1, h2, hz, q⟩ => ?_))
  subst e1 e2
  obtain rfl : ov = Value.ref L := r1
  obtain rfl : u = Value.ref N := r
  refine wpAny_bind (wpAny_holding (wpAny_Slice ?_))
  rw [evalPart_some]
  refine wpAny_Constant_int ?_
  rw [evalPart_some]
  refine wpAny_Constant_int ?_
  rw [evalPart_none]
  refine wpAny_pure ?_
  obtain ⟨its, n, rx, hl, hlx⟩ := J.lst hL
  obtain ⟨jts, m, ry, hn, hly⟩ := J.lst hN
  have l1 := rx.length
  have l2 := ry.length
  refine wpAny_bind (wpAny_standAt (wpAny_bind (wpAny_holding ?_)))
  have il : s1.heap.IsList L its.toArray := ⟨_, hl, rfl, n, rfl⟩
  have J2 : Inv X pins σ H1 { s1 with heap := s1.heap.push { cls := .type "slice", data := .fields #[.int lo s1.toks, .int hi (s1.toks + 1), .none] }, toks := s1.toks + 1 + 1 } := J.kept (t' := s1.toks + 1 + 1) fun b ob q => Heap.get?_push_of_some _ q
  have il2 : (s1.heap.push { cls := .type "slice", data := .fields #[.int lo s1.toks, .int hi (s1.toks + 1), .none] }).IsList L its.toArray := ⟨_, Heap.get?_push_of_some _ hl, rfl, n, rfl⟩
  obtain ⟨n', en⟩ := cut_in its jts lo hi n h1
  have vals : Vals (xs.take lo.toNat ++ ys ++ xs.drop hi.toNat) (its.take lo.toNat ++ jts ++ its.drop hi.toNat) := Vals.app' (Vals.app' (Vals.take' rx _).1 ry) (Vals.take' rx _).2
  have hlen : (xs.take lo.toNat ++ ys ++ xs.drop hi.toNat).length ≤ sizeLine := by
    simp only [List.length_append, List.length_take, List.length_drop]
    omega
  have J3 := J2.lstUpd hL (Heap.get?_push_of_some _ hl) en vals hlen (s1.toks + 1 + 1)
  unfold setItem
  refine wpAny_holding ?_
  refine wpAny_bind (wpAny_sequenceKey il2.typeIs (by decide) ?_)
  refine wpAny_bind (wpAny_callSpecial?_slot (name := Str.ofString "__setitem__") il2.typeIs slot_list_setitem (wpAny_call_entry slot_list_setitem il2.typeIs entry_list_setitem ?_ (args_list_setitem _ _ _)))
  refine setsl (Rr := fun s' => wpAny _ _ _ _ _ s') h0 h1 (by rw [List.size_toArray, ← l1]; exact h2) hne (by rw [List.size_toArray, List.size_toArray, ← l1, ← l2]; exact hz) (Heap.get?_push_of_some _ hl) (Heap.get?_push_size _ rfl) (Heap.get?_push_of_some _ hn) ?_
  exact wpAny_pure (wpAny_release ⟨σ, _, J3, q⟩)
end
end MP
namespace MP
open PySem PySem.Spec PyProof.Rows L2
/-- how the text stores a comprehension -/
def compAsg (sc : Scope) (tx ex : Expr) : Bool := match tx with
  | .Name y py => match ex with
    | .ListComp _ _ scope cpos => (decide (sc.kind = .function) && decide (sc.names.lookup y = some .local) && (py.line == cpos.line) && !(scope.names.any fun (n, k) => n == y && (k == .local || k == .cell))) || decide (sc.names.lookup y = some .cell)
    | _ => false
  | _ => false
def locN (c : Cc) (x : Str) : Bool := decide (c.sc.names.lookup x = some .local) || (decide (c.sc.names.lookup x = some .cell) && c.fn x)
mutual
def chkS (g : Mod) (c : Cc) (st : Stmt) (s : S) : Bool := match s with
  | .asg t e => match st with
    | .Assign [tx] ex pos => chkE g c ex e && okX tx && chkT c tx t && ((notComp ex && (notTup tx || notTup ex)) || compAsg c.sc tx ex)
    | _ => false
  | .setIx o i e => match st with
    | .Assign [.Subscript ox ix _] ex _ => chkE g c ex e && chkE g c ox o && chkE g c ix i
    | _ => false
  | .setSl o lo hi e => match st with
    | .Assign [.Subscript ox (.Slice (some (.Constant (.int a) _ _)) (some (.Constant (.int b) _ _)) none _) _] ex _ => decide (a = lo) && decide (b = hi) && chkE g c ex e && chkE g c ox o
    | _ => false
  | .aug i o e => match st with
    | .AugAssign (.Name x _) op ex _ => decide (op = bop o) && decide (c.N[i]? = some x) && locN c x && chkE g c ex e
    | _ => false
  | .ex e => match st with
    | .Expr ex _ => chkE g c ex e && notComp ex
    | _ => false
  | .ret e => match st with
    | .Return (some ex) _ => chkE g c ex e
    | _ => false
  | .retN => match st with
    | .Return none _ => true
    | _ => false
  | .ite d a b => match st with
    | .If x xs ys _ => chkE g c x d && tOk x && chkSs g c xs a && chkSs g c ys b
    | _ => false
  | .for_ t k es body => match st with
    | .For tx iter xs [] _ => okX tx && okX iter && chkT c tx t && chkI2 c k t iter (fun xs => chkEs g c xs es) && chkSs g c xs body
    | _ => false
  | .while_ d body => match st with
    | .While x xs [] _ => chkE g c x d && tOk x && chkSs g c xs body
    | _ => false
  | .brk => match st with
    | .Break _ => true
    | _ => false
  | .cont => match st with
    | .Continue _ => true
    | _ => false
  | .pass => match st with
    | .Pass _ => true
    | _ => false
def chkSs (g : Mod) (c : Cc) (sts : List Stmt) (ss : List S) : Bool := match ss with
  | [] => match sts with
    | [] => true
    | _ => false
  | s :: ss => match sts with
    | st :: sts => chkS g c st s && chkSs g c sts ss
    | [] => false
end
def PostS (K : Fra) (φ : List Addr) (H : Hp) (D : Ends) (o : Out) : Prop := ∀ φ' H' σ', Stp φ H φ' H' → Ew K φ' o.h o.env σ' H' → match o.fl with
  | .nx => D.nx σ' H'
  | .rt r => ∀ v, RV K φ' H' v r → D.rt v H'
  | .bk => D.bk σ' H'
  | .ct => D.ct σ' H'
def tS (K : Fra) (ev : Env → MH → Option Out) : TS := fun D σ H => ∃ φ h env o, Ew K φ h env σ H ∧ ev env h = some o ∧ PostS K φ H D o
section
variable {X : Cx} {K : Fra} {φ φ' φ1 φ2 : List Addr} {H H' H1 H2 : Hp} {h h' h1 h2 : MH} {v : V} {m : MV} {env : Env} {σ : L2.St}
theorem PostS.on {D : Ends} {o : Out} (p : PostS K φ H D o) (s : Stp φ H φ1 H1) : PostS K φ1 H1 D o := fun φ' H' σ' s' w => p φ' H' σ' (s.trans s') w
theorem swaps_no {e : Expr} {t : Option Expr} {l : Nat} {env : PySem.Env} (h : notComp e = true) : swapsWith e t l env = pure false := by
  cases e <;> first | rfl | cases h
theorem swaps_sub {e o i : Expr} {p : Pos} {l : Nat} {env : PySem.Env} : swapsWith e (some (.Subscript o i p)) l env = pure false := by
  cases e <;> rfl
theorem stores_no {tx ex : Expr} {env : PySem.Env} (h : (notTup tx || notTup ex) = true) : swappedStores [tx] ex env = pure none := by
  unfold swappedStores
  cases ex <;> cases tx <;> first | rfl | cases h
theorem swaps_cell {elt : Expr} {gs : List Comprehension} {scope : Scope} {pos py : Pos} {y : Str} {l : Nat} {env : PySem.Env} (hy : env.scope.names.lookup y = some .cell) : swapsWith (.ListComp elt gs scope pos) (some (.Name y py)) l env = pure false := by
  have ky : env.kindOf y = some .cell := hy
  unfold swapsWith
  simp only [ky]
  have : (some NameKind.cell == some NameKind.local) = false := by decide
  rw [this]
  simp
/-- a value is laid into targets -/
theorem asg_go {t : Tg} {ev : Env → MH → R} {D : Ends} {tt : TE} (imp : ∀ σ H Q, tEv K ev σ H Q → tt σ H Q) (hh : tS K (fun env h => (ev env h).bind fun x => (bindT t (gc h x).1 env).map fun env' => ⟨.nx, env', (gc h x).2⟩) D σ H) : tAsg tt (tTg K t) D σ H := by
  obtain ⟨φ, hp, env, o, w, e, q⟩ := hh
  simp only [Option.bind_eq_some_iff, Option.map_eq_some_iff] at e
  obtain ⟨x, e1, env', e2, rfl⟩ := e
  refine imp σ H _ (go w e1 fun φ1 H1 v1 s1 w1 r1 => ?_)
  obtain ⟨φ2, s2, hr2, rv2⟩ := gc_ok w.hr s1 w1.hr r1
  exact ⟨φ2, (gc hp x).1, env, env', rv2, w.er.mono (s2.wk w.hr.dom), e2, fun σ' er _ => q φ2 H1 σ' s2 (er.ew hr2)⟩
theorem sim_asg {g : Mod} {k : Nat} {c : Cc} (xr : XR g k X c) {t : Tg} {e : E} {tx ex : Expr} {pos : Pos} (he : chkE g c ex e = true) (hok : okX tx = true) (ht : chkT c tx t = true) (hx : (notComp ex && (notTup tx || notTup ex) || compAsg c.sc tx ex) = true) :
    PS X (.Assign [tx] ex pos) (tS X.K (evS g (run g k) (.asg t e))) := by
  have ev : evS g (run g k) (.asg t e) = fun env h => (evE g (run g k) e env h).bind fun x => (bindT t (gc h x).1 env).map fun env' => ⟨.nx, env', (gc h x).2⟩ := by
    funext env h; simp only [evS]
  rw [ev]
  have hP := (simE e ex c X xr he).pe
  have hG := simT xr t tx ht
  have h1 : (assignEach [tx] X.env).map (·.2) = [assign tx X.env] := by rw [aE_of hok]; rfl
  have plain : swapsWithSole [tx] ex pos.line X.env = pure false → swappedStores [tx] ex X.env = pure none → PS X (.Assign [tx] ex pos) (tS X.K (fun env h => (evE g (run g k) e env h).bind fun x => (bindT t (gc h x).1 env).map fun env' => ⟨.nx, env', (gc h x).2⟩)) := fun a b =>
    (ps_asg hP hG a b h1).imp fun D σ H hh => asg_go (fun _ _ _ z => z) hh
  simp only [Bool.or_eq_true, Bool.and_eq_true] at hx
  rcases hx with ⟨hc, hn⟩ | hc
  · exact plain (swaps_no hc) (stores_no (by rw [Bool.or_eq_true]; exact hn))
  · unfold compAsg at hc
    split at hc
    · rename_i y py
      split at hc
      · rename_i elt gens scope cpos
        simp only [Bool.or_eq_true, Bool.and_eq_true, decide_eq_true_eq, Bool.not_eq_true'] at hc
        rcases hc with ⟨⟨⟨hf, hl⟩, hp⟩, ha⟩ | hcell
        · -- through the comprehension's own frame
          cases e with
          | comp el tg kk es cs own =>
            obtain ⟨ex2, gen, scope', pos', tt, e0, p1, p2, p3⟩ := comp_core xr he (simAll es) (simAll cs) (simE el)
            obtain ⟨i, rfl, hi⟩ : ∃ i, t = .nm i ∧ c.N[i]? = some y := by
              cases t with
              | tup ts => unfold chkT at ht; cases ht
              | nm i =>
                unfold chkT at ht
                simp only [Bool.and_eq_true, decide_eq_true_eq] at ht
                exact ⟨i, rfl, ht.1⟩
            refine (p2 (i := i) (by rw [xr.hN]; exact hi) (by rw [xr.sc]; exact hl) (sw_true (by rw [xr.sc]; exact hf) (by rw [xr.sc]; exact hl) hp ha)).imp fun D σ H hh => ?_
            have z := asg_go p3 hh
            obtain ⟨φ, hp', env, o, w, e1, q⟩ := hh
            simp only [Option.bind_eq_some_iff, Option.map_eq_some_iff] at e1
            obtain ⟨x, e1, env', e2, rfl⟩ := e1
            simp only [bindT] at e2
            cases e2
            refine p3 σ H _ (go w e1 fun φ1 H1 v1 s1 w1 r1 => ?_)
            obtain ⟨φ2, s2, hr2, rv2⟩ := gc_ok w.hr s1 w1.hr r1
            exact q φ2 H1 _ s2 (((w.er.mono (s2.wk w.hr.dom)).set rv2).ew hr2)
          | frz e' =>
            cases e' with
            | comp el tg kk es cs own =>
              have he2 := he
              simp only [chkE.eq_def g c _ (.frz _), Bool.and_eq_true] at he2
              obtain ⟨ex2, gen, scope', pos', tt, e0, p1, p2, p3⟩ := comp_core xr he2.2.2 (simAll es) (simAll cs) (simE el)
              obtain ⟨i, rfl, hi⟩ : ∃ i, t = .nm i ∧ c.N[i]? = some y := by
                cases t with
                | tup ts => unfold chkT at ht; cases ht
                | nm i =>
                  unfold chkT at ht
                  simp only [Bool.and_eq_true, decide_eq_true_eq] at ht
                  exact ⟨i, rfl, ht.1⟩
              refine (ps_frz (p2 (i := i) (by rw [xr.hN]; exact hi) (by rw [xr.sc]; exact hl) (sw_true (by rw [xr.sc]; exact hf) (by rw [xr.sc]; exact hl) hp ha))).imp fun D σ H hh => ?_
              obtain ⟨φ, hp', env, o, w, e1, q⟩ := hh
              simp only [Option.bind_eq_some_iff, Option.map_eq_some_iff] at e1
              obtain ⟨x, e1, env', e2, rfl⟩ := e1
              simp only [bindT] at e2
              cases e2
              rw [evE.eq_def g (run g k) (.frz _)] at e1
              simp only [Option.bind_eq_some_iff] at e1
              obtain ⟨y0, e3, e4⟩ := e1
              refine p3 σ H _ (go w e3 fun φ1 H1 v1 s1 w1 r1 => ?_)
              rcases frz_ok w.hr s1 w1.hr r1 e4 with ⟨d, vs, rfl, hd, kk⟩ | ⟨φ2, s2, hr2, rv2⟩
              · right
                refine ⟨d, vs, hd, fun od => ?_⟩
                obtain ⟨k1, k2, k3⟩ := kk od
                obtain ⟨φ3, s3, hr3, rv3⟩ := gc_ok w.hr k1 k2 k3
                exact q φ3 _ _ s3 (((w.er.mono (s3.wk w.hr.dom)).set rv3).ew hr3)
              · left
                obtain ⟨φ3, s3, hr3, rv3⟩ := gc_ok w.hr s2 hr2 rv2
                exact q φ3 H1 _ s3 (((w.er.mono (s3.wk w.hr.dom)).set rv3).ew hr3)
            | frz _ => simp [chkE, E.isFrz] at he
            | _ => simp [chkE] at he
          | _ => simp [chkE] at he
        · exact plain (swaps_cell (l := pos.line) (by rw [xr.sc]; exact hcell)) (stores_no rfl)
      · cases hc
    · cases hc
theorem sub_of {o i : Expr} {pos : Pos} {env : PySem.Env} (h : okX i = true) : ∀ v, assign (.Subscript o i pos) env v = (do
      let ov ← holding [v] (eval o env)
      let iv ← holding [v, ov] (eval i env)
      standAt pos
      holding [v, ov, iv] (setItem ov iv v)
      release [v, ov, iv] []) := by
  intro v
  cases i <;> first | rfl | cases h
theorem sim_setIx {g : Mod} {k : Nat} {o i e : E} {ox ix ex : Expr} {p pos : Pos} (he : PE X ex (tEv X.K (evE g (run g k) e))) (ho : PE X ox (tEv X.K (evE g (run g k) o))) (hi : PE X ix (tEv X.K (evE g (run g k) i))) (hok : okX ix = true) :
    PS X (.Assign [.Subscript ox ix p] ex pos) (tS X.K (evS g (run g k) (.setIx o i e))) := by
  refine (ps_asg he (pg_sub ho hi setR (sub_of hok)) (show swapsWith ex (some (.Subscript ox ix p)) pos.line X.env = pure false from swaps_sub) (stores_no rfl) rfl).imp fun D σ H hh => ?_
  obtain ⟨φ, hp, env, r, w, e0, q⟩ := hh
  simp only [evS, Option.bind_eq_some_iff, Option.map_eq_some_iff] at e0
  obtain ⟨x, e1, y, e2, z, e3, h', e4, rfl⟩ := e0
  refine go w e1 fun φ1 H1 v1 s1 w1 r1 => go w1 e2 fun φ2 H2 v2 s2 w2 r2 => go w2 e3 fun φ3 H3 v3 s3 w3 r3 => ?_
  refine ⟨φ3, z.2, y.1, z.1, x.1, h', w3.hr, RV.mono s3 w2.hr.dom _ _ r2, r3, RV.mono (s2.trans s3) w1.hr.dom _ _ r1, e4, fun H4 s4 hr4 => ?_⟩
  have s14 := ((s1.trans s2).trans s3).trans s4
  obtain ⟨φ5, s5, hr5, _⟩ := gc_ok (v := .non) (r := (.non, h')) w.hr s14 hr4 rfl
  exact q φ5 H4 σ s5 ((w.er.mono (s5.wk w.hr.dom)).ew hr5)
theorem sim_setSl {g : Mod} {k : Nat} {o e : E} {ox ex : Expr} {lo hi : Int} {j1 j2 : Nat} {p1 p2 p3 p pos : Pos} (he : PE X ex (tEv X.K (evE g (run g k) e))) (ho : PE X ox (tEv X.K (evE g (run g k) o))) :
    PS X (.Assign [.Subscript ox (.Slice (some (.Constant (.int lo) j1 p1)) (some (.Constant (.int hi) j2 p2)) none p3) p] ex pos) (tS X.K (evS g (run g k) (.setSl o lo hi e))) := by
  refine (ps_asg he (pg_sl ho) (show swapsWith ex (some (.Subscript ox (.Slice (some (.Constant (.int lo) j1 p1)) (some (.Constant (.int hi) j2 p2)) none p3) p)) pos.line X.env = pure false from swaps_sub) (stores_no rfl) rfl).imp fun D σ H hh => ?_
  obtain ⟨φ, hp, env, r, w, e0, q⟩ := hh
  simp only [evS, Option.bind_eq_some_iff, Option.map_eq_some_iff] at e0
  obtain ⟨x, e1, y, e2, h', e4, rfl⟩ := e0
  refine go w e1 fun φ1 H1 v1 s1 w1 r1 => go w1 e2 fun φ2 H2 v2 s2 w2 r2 => ?_
  unfold setSlM at e4
  split at e4
  · rename_i n m hn hm
    split at e4
    · rename_i xs ys hx hy
      split at e4
      · rename_i hc
        cases e4
        have r1' := RV.mono s2 w1.hr.dom _ _ r1
        rw [hm] at r1'
        rw [hn] at r2
        obtain ⟨L, eL, rfl⟩ := r2
        obtain ⟨N, eN, rfl⟩ := r1'
        obtain ⟨vs, q1, q2, q3⟩ := w2.hr.lst eL hx
        obtain ⟨ws, p1', p2', p3'⟩ := w2.hr.lst eN hy
        have hne : L ≠ N := fun z => hc.1 (by
          subst z
          obtain ⟨a1, b1⟩ := List.getElem?_eq_some_iff.mp eL
          obtain ⟨a2, b2⟩ := List.getElem?_eq_some_iff.mp eN
          exact (List.getElem_inj w2.hr.nd).mp (b1.trans b2.symm))
        refine ⟨L, N, vs, ws, rfl, rfl, hne, q1, p1', hc.2.1, hc.2.2.1, by rw [q2.len]; exact hc.2.2.2.1, by rw [q2.len, p2'.len]; exact hc.2.2.2.2, ?_⟩
        have hz : (xs.take lo.toNat ++ ys ++ xs.drop hi.toNat).length ≤ sizeLine := by
          have h0 : xs.length + ys.length ≤ sizeLine := hc.2.2.2.2
          have h1 := hc.2.2.1
          have h2 := hc.2.1
          simp only [List.length_append, List.length_take, List.length_drop]
          omega
        have rv := ((q2.take lo.toNat).app p2').app (q2.drop hi.toNat)
        have hr4 := w2.hr.put eL rv hz
        have s14 := (s1.trans s2).trans (stp_set (o := .lst (vs.take lo.toNat ++ ws ++ vs.drop hi.toNat)) eL)
        obtain ⟨φ5, s5, hr5, _⟩ := gc_ok (v := .non) (r := (.non, y.2.set n (.lst (xs.take lo.toNat ++ ys ++ xs.drop hi.toNat)))) w.hr s14 hr4 rfl
        exact q φ5 _ σ s5 ((w.er.mono (s5.wk w.hr.dom)).ew hr5)
      · cases e4
    · cases e4
  · cases e4
def rAu (K : Fra) (o : BOp) : TIp := fun x y H Q => ∃ φ h a b r, HR K φ h H ∧ RV K φ H x a ∧ RV K φ H y b ∧ augM o h a b = some r ∧ Post K φ H Q r
theorem ipM (o : BOp) : PIp X (bop o) (rAu X.K o) := by
  intro pins s σ H x y v u Q I rx ry hh
  obtain ⟨φ, h, a, b, r, hr, ha, hb, e, q⟩ := hh
  unfold augM at e
  split at e
  · cases e; cases ha; cases hb
    exact ip_add pins s σ H _ _ v u Q I rx ry ⟨_, _, rfl, rfl, q.now hr rfl⟩
  · cases e; cases ha; cases hb
    exact ip_sub pins s σ H _ _ v u Q I rx ry ⟨_, _, rfl, rfl, q.now hr rfl⟩
  · rename_i i j
    split at e
    · rename_i hz
      cases e
      obtain ⟨rfl, za⟩ := ha
      obtain ⟨rfl, zb⟩ := hb
      exact iop_add_str pins s σ H _ _ v u Q I rx ry ⟨i, j, rfl, rfl, hz, q.now hr ⟨rfl, by
          show (i ++ j).cps.size ≤ _
          have : (i ++ j).cps.size = i.cps.size + j.cps.size := by show (i.cps ++ j.cps).size = _; simp
          rw [this]; exact hz⟩⟩
    · cases e
  · cases e
theorem sim_aug {g : Mod} {k : Nat} {c : Cc} (xr : XR g k X c) {i : Nat} {o : BOp} {e : E} {x : Str} {ex : Expr} {p pos : Pos} (hi : c.N[i]? = some x) (hl : locN c x = true) (he : PE X ex (tEv X.K (evE g (run g k) e))) :
    PS X (.AugAssign (.Name x p) (bop o) ex pos) (tS X.K (evS g (run g k) (.aug i o e))) := by
  simp only [locN, Bool.or_eq_true, Bool.and_eq_true, decide_eq_true_eq] at hl
  have hx : L2.Loc X.env.scope x := by
    rw [xr.sc]
    rcases hl with h2 | h2
    · exact .inl h2
    · exact .inr h2.1
  have hf : X.fn x = true ∨ X.env.scope.names.lookup x = some .local := by
    rcases hl with h2 | h2
    · exact .inr (by rw [xr.sc]; exact h2)
    · exact .inl (by rw [xr.fn]; exact h2.2)
  refine (ps_aug xr.nd (by rw [xr.hN]; exact hi) hx he (ipM o) hf).imp fun D σ H hh => ?_
  obtain ⟨φ, hp, env, r, w, e0, q⟩ := hh
  simp only [evS] at e0
  split at e0
  · rename_i m hm
    simp only [Option.bind_eq_some_iff, Option.map_eq_some_iff] at e0
    obtain ⟨y, e1, z, e2, rfl⟩ := e0
    obtain ⟨u, hu, ru⟩ := w.at_ i m hm
    refine ⟨u, hu, go w e1 fun φ1 H1 v1 s1 w1 r1 => ⟨φ1, y.2, m, y.1, z, w1.hr, RV.mono s1 w.hr.dom _ _ ru, r1, e2, fun φ2 H2 v2 s2 hr2 rv2 => ?_⟩⟩
    obtain ⟨φ3, s3, hr3, rv3⟩ := gc_ok w.hr (s1.trans s2) hr2 rv2
    exact q φ3 H2 _ s3 (((w.er.mono (s3.wk w.hr.dom)).set rv3).ew hr3)
  · cases e0
theorem sim_exp {g : Mod} {k : Nat} {e : E} {ex : Expr} {pos : Pos} (hn : notComp ex = true) (he : PE X ex (tEv X.K (evE g (run g k) e))) : PS X (.Expr ex pos) (tS X.K (evS g (run g k) (.ex e))) := by
  refine (ps_expr he (swaps_no hn)).imp fun D σ H hh => ?_
  obtain ⟨φ, hp, env, r, w, e0, q⟩ := hh
  simp only [evS, Option.map_eq_some_iff] at e0
  obtain ⟨x, e1, rfl⟩ := e0
  refine go w e1 fun φ1 H1 v1 s1 w1 r1 => ?_
  obtain ⟨φ3, s3, hr3, _⟩ := gc_ok (v := .non) (r := (.non, x.2)) w.hr s1 w1.hr rfl
  exact q φ3 H1 σ s3 ((w.er.mono (s3.wk w.hr.dom)).ew hr3)
theorem sim_ret {g : Mod} {k : Nat} {e : E} {ex : Expr} {pos : Pos} (he : PE X ex (tEv X.K (evE g (run g k) e))) : PS X (.Return (some ex) pos) (tS X.K (evS g (run g k) (.ret e))) := by
  refine (ps_ret he).imp fun D σ H hh => ?_
  obtain ⟨φ, hp, env, r, w, e0, q⟩ := hh
  simp only [evS, Option.map_eq_some_iff] at e0
  obtain ⟨x, e1, rfl⟩ := e0
  refine go w e1 fun φ1 H1 v1 s1 w1 r1 => ?_
  obtain ⟨φ3, s3, hr3, rv3⟩ := gc_ok w.hr s1 w1.hr r1
  exact q φ3 H1 σ s3 ((w.er.mono (s3.wk w.hr.dom)).ew hr3) v1 rv3
/-- a test, what its making needed let go -/
theorem tst_go {g : Mod} {k : Nat} {c : E} {r : MV × MH} {Q : Bool → Hp → Prop} (w : Ew K φ h env σ H) (e : tstE g (run g k) c env h = some r) (q : ∀ b φ1 H1, r.1 = .bl b → Stp φ H φ1 H1 → Ew K φ1 r.2 env σ H1 → Q b H1) : tTv K (evE g (run g k) c) σ H Q := by
  simp only [tstE, Option.bind_eq_some_iff, Option.map_eq_some_iff] at e
  obtain ⟨x, e1, b, e2, rfl⟩ := e
  refine goT w e1 e2 fun φ1 H1 s1 w1 => ?_
  obtain ⟨φ3, s3, hr3, _⟩ := gc_ok (v := .bl b) (r := (.bl b, x.2)) w.hr s1 w1.hr rfl
  exact q b φ3 H1 (gc_flat (by unfold MV.lt; exact True.intro) (fun p z => nomatch z)) s3 ((w.er.mono (s3.wk w.hr.dom)).ew hr3)
/-- the state of a for -/
structure ForSt (K : Fra) (φ1 : List Addr) (H1 : Hp) (st : Its) (t : Tg) (body : Env → MH → Option Out) (o : Out) (i : Nat) (σ : L2.St) (H : Hp) : Prop where
  ex : ∃ φ2 h2 env2, Stp φ1 H1 φ2 H ∧ Ew K φ2 h2 env2 σ H ∧ forL t st body (st.items.drop i) env2 h2 = some o
theorem sim_for {g : Mod} {k : Nat} {c : Cc} (xr : XR g k X c) {tx iter : Expr} {xs : List Stmt} {pos : Pos} {t : Tg} {kk : IK} {es : List E} {body : List S} (hpi : PI X tx iter (tI X.K fun env h => (evEs g (run g k) es env h).bind fun r => itsG kk h r)) (hok : okX iter = true) (ht : PG X tx (tTg X.K t))
    (hb : PSs X xs (tS X.K (evSs g (run g k) body))) : PS X (.For tx iter xs [] pos) (tS X.K (evS g (run g k) (.for_ t kk es body))) := by
  refine (ps_for (by rw [xr.xe]; exact PassesOwn.never) xr.calm hpi ht hb (folded_of hok)).imp fun D σ H hh => ?_
  obtain ⟨φ, hp, env, o, w, e0, q⟩ := hh
  simp only [evS, evI, Option.bind_eq_some_iff] at e0
  obtain ⟨st, ⟨r, f1, f2⟩, e2⟩ := e0
  refine ⟨φ, hp, env, st, w, by show (evEs g (run g k) es env hp).bind _ = _; rw [f1]; exact f2, fun φ1 H1 J s1 hr1 wm => ?_⟩
  obtain ⟨hzl, G, Y, wk, wG, wY⟩ := wm
  have w1 : Ew X.K φ1 st.2 env σ H1 := w.step s1 hr1
  refine for_it wk (ForSt X.K φ1 H1 st.1 t (evSs g (run g k) body) o) ⟨φ1, st.2, env, .refl, w1, e2⟩ (fun i σ2 H2 hi p => ?_) (fun i x σ2 H2 H3 hi p y => ?_) fun σ2 H2 p => ?_
  · obtain ⟨φ2, h2, env2, p1, p2, p3⟩ := p.ex
    refine wG φ2 h2 H2 p1 p2.hr ?_
    cases hd : st.1.items.drop i with
    | nil =>
      rw [hd] at p3
      simp only [forL] at p3
      split at p3
      · assumption
      · cases p3
    | cons z zs =>
      rw [hd] at p3
      simp only [forL] at p3
      split at p3
      · assumption
      · cases p3
  · obtain ⟨φ2, h2, env2, p1, p2, p3⟩ := p.ex
    have hd : st.1.items.drop i = st.1.items[i] :: st.1.items.drop (i + 1) := List.drop_eq_getElem_cons hi
    rw [hd] at p3
    simp only [forL] at p3
    split at p3
    · rename_i hst
      simp only [Option.bind_eq_some_iff] at p3
      obtain ⟨env1, f3, b, f4, f5⟩ := p3
      obtain ⟨m, g1, g2, g3, g4⟩ := wY i H2 x H3 φ2 h2 hi p1 p2.hr hst y
      rw [List.getElem?_eq_getElem hi] at g1
      cases g1
      have p1' := p1.trans g3
      refine ⟨φ2, st.1.items[i], env2, env1, g2, p2.er.mono (g3.wk p2.hr.dom), f3, fun σ3 er3 _ => ?_⟩
      refine ⟨φ2, h2, env1, b, er3.ew g4, f4, fun φ4 H4 σ4 s4 w4 => ?_⟩
      cases hfl : b.fl with
      | nx =>
        rw [hfl] at f5
        exact ⟨φ4, b.h, b.env, p1'.trans s4, w4, f5⟩
      | ct =>
        rw [hfl] at f5
        exact ⟨φ4, b.h, b.env, p1'.trans s4, w4, f5⟩
      | bk =>
        rw [hfl] at f5
        cases f5
        exact q φ4 H4 σ4 ((s1.trans p1').trans s4) w4
      | rt r =>
        rw [hfl] at f5
        cases f5
        have z := q φ4 H4 σ4 ((s1.trans p1').trans s4) w4
        rw [hfl] at z
        exact z
    · cases p3
  · obtain ⟨φ2, h2, env2, p1, p2, p3⟩ := p.ex
    rw [List.drop_length] at p3
    simp only [forL] at p3
    split at p3
    · cases p3
      exact q φ2 H2 σ2 (s1.trans p1) p2
    · cases p3
theorem sim_while {g : Mod} {k : Nat} {c : Cc} (xr : XR g k X c) {x : Expr} {xs : List Stmt} {pos : Pos} {d : E} {body : List S} (hc : PT X x (tTv X.K (evE g (run g k) d))) (hb : PSs X xs (tS X.K (evSs g (run g k) body))) :
    PS X (.While x xs [] pos) (tS X.K (evS g (run g k) (.while_ d body))) := by
  refine (ps_while (by rw [xr.xe]; exact PassesOwn.never) hc hb).imp fun D σ H hh => ?_
  obtain ⟨φ, hp, env, o, w, e0, q⟩ := hh
  simp only [evS] at e0
  refine ⟨fun n σ2 H2 => ∃ φ2 h2 env2, Stp φ H φ2 H2 ∧ Ew X.K φ2 h2 env2 σ2 H2 ∧ whileL (tstE g (run g k) d) (evSs g (run g k) body) n env2 h2 = some o, ⟨WLIM, φ, hp, env, .refl, w, e0⟩, fun n σ2 H2 p => ?_⟩
  obtain ⟨φ2, h2, env2, p1, p2, p3⟩ := p
  cases n with
  | zero => simp only [whileL] at p3; cases p3
  | succ n =>
    simp only [whileL, Option.bind_eq_some_iff] at p3
    obtain ⟨b, f1, f2⟩ := p3
    refine tst_go p2 f1 fun bb φ3 H3 eb s3 w3 => ?_
    rw [eb] at f2
    cases bb with
    | false =>
      rw [if_neg Bool.false_ne_true]
      cases f2
      exact q φ3 H3 σ2 (p1.trans s3) w3
    | true =>
      rw [if_pos rfl]
      simp only [Option.bind_eq_some_iff] at f2
      obtain ⟨ob, f3, f4⟩ := f2
      refine ⟨fun σ' H' => ∃ φ2 h2 env2, Stp φ H φ2 H' ∧ Ew X.K φ2 h2 env2 σ' H' ∧ whileL (tstE g (run g k) d) (evSs g (run g k) body) n env2 h2 = some o, fun σ' H' z => ⟨n, Nat.lt_succ_self n, z⟩, φ3, b.2, env2, ob, w3, f3, fun φ4 H4 σ4 s4 w4 => ?_⟩
      cases hfl : ob.fl with
      | nx =>
        rw [hfl] at f4
        exact ⟨φ4, ob.h, ob.env, (p1.trans s3).trans s4, w4, f4⟩
      | ct =>
        rw [hfl] at f4
        exact ⟨φ4, ob.h, ob.env, (p1.trans s3).trans s4, w4, f4⟩
      | bk =>
        rw [hfl] at f4
        cases f4
        exact q φ4 H4 σ4 ((p1.trans s3).trans s4) w4
      | rt r =>
        rw [hfl] at f4
        cases f4
        have z := q φ4 H4 σ4 ((p1.trans s3).trans s4) w4
        rw [hfl] at z
        exact z
theorem sim_if {g : Mod} {k : Nat} {x : Expr} {xs ys : List Stmt} {pos : Pos} {d : E} {a b : List S} (hc : PT X x (tTv X.K (evE g (run g k) d))) (ha : PSs X xs (tS X.K (evSs g (run g k) a))) (hb : PSs X ys (tS X.K (evSs g (run g k) b))) :
    PS X (.If x xs ys pos) (tS X.K (evS g (run g k) (.ite d a b))) := by
  refine (ps_if hc ha hb).imp fun D σ H hh => ?_
  obtain ⟨φ, hp, env, o, w, e0, q⟩ := hh
  simp only [evS, Option.bind_eq_some_iff] at e0
  obtain ⟨r, f1, f2⟩ := e0
  refine tst_go w f1 fun bb φ3 H3 eb s3 w3 => ?_
  rw [eb] at f2
  cases bb with
  | false =>
    rw [if_neg Bool.false_ne_true]
    exact ⟨φ3, r.2, env, o, w3, f2, q.on s3⟩
  | true =>
    rw [if_pos rfl]
    exact ⟨φ3, r.2, env, o, w3, f2, q.on s3⟩
mutual
theorem simS {g : Mod} {k : Nat} {c : Cc} (xr : XR g k X c) : ∀ (s : S) (st : Stmt), chkS g c st s = true → PS X st (tS X.K (evS g (run g k) s))
  | .asg t e, st, hc => by
    unfold chkS at hc
    split at hc
    · simp only [Bool.and_eq_true] at hc
      exact sim_asg xr hc.1.1.1 hc.1.1.2 hc.1.2 hc.2
    · cases hc
  | .setIx o i e, st, hc => by
    unfold chkS at hc
    split at hc
    · simp only [Bool.and_eq_true] at hc
      exact sim_setIx (simE e _ c X xr hc.1.1).pe (simE o _ c X xr hc.1.2).pe (simE i _ c X xr hc.2).pe (okE hc.2)
    · cases hc
  | .setSl o lo hi e, st, hc => by
    unfold chkS at hc
    split at hc
    · simp only [Bool.and_eq_true, decide_eq_true_eq] at hc
      obtain ⟨⟨⟨rfl, rfl⟩, h1⟩, h2⟩ := hc
      exact sim_setSl (simE e _ c X xr h1).pe (simE o _ c X xr h2).pe
    · cases hc
  | .aug i o e, st, hc => by
    unfold chkS at hc
    split at hc
    · simp only [Bool.and_eq_true, decide_eq_true_eq] at hc
      obtain ⟨⟨⟨rfl, h1⟩, h2⟩, h3⟩ := hc
      exact sim_aug xr h1 h2 (simE e _ c X xr h3).pe
    · cases hc
  | .ex e, st, hc => by
    unfold chkS at hc
    split at hc
    · simp only [Bool.and_eq_true] at hc
      exact sim_exp hc.2 (simE e _ c X xr hc.1).pe
    · cases hc
  | .ret e, st, hc => by
    unfold chkS at hc
    split at hc
    · exact sim_ret (simE e _ c X xr hc).pe
    · cases hc
  | .retN, st, hc => by
    unfold chkS at hc
    split at hc
    · refine ps_retN.imp fun D σ H hh => ?_
      obtain ⟨φ, hp, env, o, w, e0, q⟩ := hh
      simp only [evS] at e0
      cases e0
      exact q φ H σ .refl w .non rfl
    · cases hc
  | .ite d a b, st, hc => by
    unfold chkS at hc
    split at hc
    · simp only [Bool.and_eq_true] at hc
      exact sim_if ((simE d _ c X xr hc.1.1.1).pt hc.1.1.2) (simSs xr a _ hc.1.2) (simSs xr b _ hc.2)
    · cases hc
  | .for_ t kk es body, st, hc => by
    unfold chkS at hc
    split at hc
    · simp only [Bool.and_eq_true] at hc
      exact sim_for xr (pi_of xr hc.1.1.1.2 hc.1.2 hc.1.1.2 (fun e x he hx => (simAll es e (by rw [he]; exact List.mem_singleton.mpr rfl) x c X xr hx).pe) (fun xs hx => pa_all es xs c X (simAll es) xr hx)) hc.1.1.1.2 (simT xr t _ hc.1.1.2) (simSs xr body _ hc.2)
    · cases hc
  | .while_ d body, st, hc => by
    unfold chkS at hc
    split at hc
    · simp only [Bool.and_eq_true] at hc
      exact sim_while xr ((simE d _ c X xr hc.1.1).pt hc.1.2) (simSs xr body _ hc.2)
    · cases hc
  | .brk, st, hc => by
    unfold chkS at hc
    split at hc
    · refine ps_break.imp fun D σ H hh => ?_
      obtain ⟨φ, hp, env, o, w, e0, q⟩ := hh
      simp only [evS] at e0
      cases e0
      exact q φ H σ .refl w
    · cases hc
  | .cont, st, hc => by
    unfold chkS at hc
    split at hc
    · refine ps_continue.imp fun D σ H hh => ?_
      obtain ⟨φ, hp, env, o, w, e0, q⟩ := hh
      simp only [evS] at e0
      cases e0
      exact q φ H σ .refl w
    · cases hc
  | .pass, st, hc => by
    unfold chkS at hc
    split at hc
    · refine ps_pass.imp fun D σ H hh => ?_
      obtain ⟨φ, hp, env, o, w, e0, q⟩ := hh
      simp only [evS] at e0
      cases e0
      exact q φ H σ .refl w
    · cases hc
theorem simSs {g : Mod} {k : Nat} {c : Cc} (xr : XR g k X c) : ∀ (ss : List S) (sts : List Stmt), chkSs g c sts ss = true → PSs X sts (tS X.K (evSs g (run g k) ss))
  | [], sts, hc => by
    cases sts with
    | cons _ _ => simp [chkSs] at hc
    | nil =>
      refine pss_nil.imp fun D σ H hh => ?_
      obtain ⟨φ, hp, env, o, w, e0, q⟩ := hh
      simp only [evSs] at e0
      cases e0
      exact q φ H σ .refl w
  | s :: ss, sts, hc => by
    cases sts with
    | nil => simp [chkSs] at hc
    | cons st sts =>
      simp only [chkSs, Bool.and_eq_true] at hc
      refine (pss_cons (simS xr s st hc.1) (simSs xr ss sts hc.2)).imp fun D σ H hh => ?_
      obtain ⟨φ, hp, env, o, w, e0, q⟩ := hh
      simp only [evSs, Option.bind_eq_some_iff] at e0
      obtain ⟨o1, f1, f2⟩ := e0
      refine ⟨φ, hp, env, o1, w, f1, fun φ1 H1 σ1 s1 w1 => ?_⟩
      cases hfl : o1.fl with
      | nx =>
        rw [hfl] at f2
        exact ⟨φ1, o1.h, o1.env, o, w1, f2, q.on s1⟩
      | rt r =>
        rw [hfl] at f2
        cases f2
        have z := q φ1 H1 σ1 s1 w1
        rw [hfl] at z
        exact z
      | bk =>
        rw [hfl] at f2
        cases f2
        have z := q φ1 H1 σ1 s1 w1
        rw [hfl] at z
        exact z
      | ct =>
        rw [hfl] at f2
        cases f2
        have z := q φ1 H1 σ1 s1 w1
        rw [hfl] at z
        exact z
end
end
end MP
namespace MP
open PySem PySem.Spec PyProof.Rows L2
section
variable {P : Program} {w : World} {K : Fra} {mg : Str → Option Value} {base : Heap} {g : Mod} {cs : List (Addr × Addr)}
theorem fok {x qual : Str} {st : Stmt} {f : Addr} {fd : FuncData} {N ps : List Str} {k : Nat} {sp : Sp} (F : Fun K x qual st f fd) (S : FnScope N ps (defScope st)) (len : ∀ vs H Q E, sp vs H Q E → vs.length = ps.length)
    (hb : ∀ (A : Around) (outer : List PySem.Env) (s : Shared) (H : Hp) (vs : List V) (Q : VK) (E : XK), Room k (A.deeper (envOfC qual (defScope st) s.heap.objs.size f fd.code)) → sp vs H Q E →
      ∃ t, PSs (cxOf CX0 P w K mg base N qual (defScope st) f fd.code A outer s H E).nox (defBody st) t ∧ t { nx := fun _ H' => Q .non H', rt := Q } (L2.start N vs) H) : FnOk P w K mg base CX0 (k + 1) f fd ps sp := by
  obtain ⟨oc, od, kV, doc, pm, an, cdv, ct, osl, rfl, lk, hc⟩ := F.ex
  refine fn_of lk hc S len fun A outer s H vs Q E hr hs => ?_
  obtain ⟨t, h, q⟩ := hb A outer s H vs Q E hr hs
  exact ⟨t, h.nox, q⟩
theorem pss_frz {X : Cx} {st : List Stmt} {t : TS} (h : PSs X st t) : PSs X st (fun D σ H => t ⟨D.nx, fun v H' => D.rt v H' ∨ ∃ d vs, v = .ref d ∧ H' d = some (.lst vs) ∧ ∀ od, D.rt v (upd H' d (.frz od (.lst vs))), D.bk, D.ct⟩ σ H) := by
  refine ⟨fun pins s σ H D I hw => ?_⟩
  refine thn (h.run pins s σ _ _ I hw) fun f s1 q => ?_
  cases f with
  | next => exact q
  | brk => exact q
  | cont => exact q
  | ret v =>
    obtain ⟨x, σ', H', I2, r, q⟩ := q
    rcases q with q | ⟨d, vs, rfl, hd, q⟩
    · exact ⟨x, σ', H', I2, r, q⟩
    · obtain ⟨od, I3⟩ := I2.lock hd True.intro
      exact ⟨_, σ', _, I3, r, q od⟩
/-- the tables of the defs that make generators -/
def GenIn (K : Fra) (mg : Str → Option Value) (base : Heap) (cs : List (Addr × Addr)) : Prop := ∀ p ∈ cs, GxR.TabB base mg p.1 p.2 ∧ p.2 ∈ tabsIn K
def GenOf (cs : List (Addr × Addr)) (i : FnI) (code : Value) : Prop := i.gen = true → ∃ p ∈ cs, code = .ref p.1
/-- what is known of a def behind the top -/
structure FnSt (K : Fra) (cs : List (Addr × Addr)) (mg : Str → Option Value) (g : Mod) (f : Str) (i : FnI) : Prop where
  ex : ∃ (a : Addr) (fd : FuncData) (st : Stmt) (ps : List Str), mg f = some (.ref a) ∧ Fun K f f st a fd ∧ FnScope i.names ps (defScope st) ∧ ps.length = i.np ∧ Binds K fd ps [] ∧ chkSs g ⟨i.names, defScope st, fun _ => true, i.gen⟩ (defBody st) i.body = true ∧ GenOf cs i fd.code
structure ModSt (K : Fra) (cs : List (Addr × Addr)) (mg : Str → Option Value) (g : Mod) : Prop where
  fns : ∀ f i, g.fns.lookup f = some i → FnSt K cs mg g f i
  cns : ∀ x m, g.cns.lookup x = some m → ∃ u w, mg x = some u ∧ RelV w u ∧ ∀ H, RV K [] H w m
  blt : ∀ x ∈ bltNames, mg x = none
theorem fn_step (M : ModSt K cs mg g) (GI : GenIn K mg base cs) {k : Nat} {f : Str} {i : FnI} {a : Addr} {fd : FuncData} {st : Stmt} {ps : List Str} (ih : ∀ f i, g.fns.lookup f = some i → ∃ a fd ps, mg f = some (.ref a) ∧ PySem.W.keepIn K (.ref a) = true ∧ Binds K fd ps [] ∧ ps.length = i.np ∧ FnOk P w K mg base CX0 k a fd ps (spM K g k f))
    (F : Fun K f f st a fd) (e3 : FnScope i.names ps (defScope st)) (e4 : ps.length = i.np) (hf : g.fns.lookup f = some i) (e6 : chkSs g ⟨i.names, defScope st, fun _ => true, i.gen⟩ (defBody st) i.body = true) (e7 : GenOf cs i fd.code) :
    FnOk P w K mg base CX0 (k + 1) a fd ps (spM K g (k + 1) f) := by
  refine fok F e3 (fun vs H Q E hh => ?_) fun A outer s H vs Q E hr hh => ?_
  · obtain ⟨i', φ, h, ms, r, q1, q2, q3, q4, q5, q6⟩ := hh
    rw [hf] at q1; cases q1
    rw [e4]; exact q2
  · obtain ⟨i', φ, h, ms, r, q1, q2, q3, q4, q5, q6⟩ := hh
    rw [hf] at q1; cases q1
    have xr : XR g k (cxOf CX0 P w K mg base i.names f (defScope st) a fd.code A outer s H E).nox ⟨i.names, defScope st, fun _ => true, i.gen⟩ :=
      { hN := rfl, nd := e3.nd, sc := rfl, fn := rfl, calm := rfl, room := hr, xe := rfl, fns := fun f' i' h' => ih f' i' h', cns := M.cns, blt := M.blt, gen := fun z => by
          obtain ⟨p, hp, ec⟩ := e7 z
          exact ⟨p.1, p.2, ec, (GI p hp).1, (GI p hp).2⟩ }
    refine ⟨_, pss_frz (simSs xr i.body (defBody st) e6), ?_⟩
    simp only [run, hf] at q5
    split at q5
    · rename_i hl
      simp only [Option.bind_eq_some_iff] at q5
      obtain ⟨o, f1, f2⟩ := q5
      have len : (ms.map some ++ List.replicate (i.names.length - ms.length) (none : Option MV)).length = (L2.start i.names vs).length := by
        unfold L2.start
        rw [List.length_append, List.length_append, List.length_map, List.length_map, List.length_replicate, List.length_replicate, q4.len]
      have er : EnvR K φ H (ms.map some ++ List.replicate (i.names.length - ms.length) none) (L2.start i.names vs) := by
        refine ⟨len, fun j m hj => ?_⟩
        have hjl : j < ms.length := by
          by_cases hjl : j < ms.length
          · exact hjl
          · rw [List.getElem?_append_right (by simpa using hjl), List.getElem?_replicate] at hj
            split at hj <;> cases hj
        rw [List.getElem?_append_left (by simpa using hjl), List.getElem?_map, List.getElem?_eq_getElem hjl] at hj
        cases hj
        obtain ⟨v, hv, rv⟩ := q4.get (List.getElem?_eq_getElem hjl)
        refine ⟨v, ?_, rv⟩
        unfold L2.start
        rw [List.getElem?_append_left (by rw [List.length_map, q4.len]; exact hjl), List.getElem?_map, hv]
        rfl
      refine ⟨φ, h, _, o, er.ew q3, f1, fun φ' H' σ' s' w' => ?_⟩
      cases hfl : o.fl with
      | nx =>
        rw [hfl] at f2
        cases f2
        obtain ⟨φ3, s3, hr3, rv3⟩ := gc_ok (v := .non) (r := (.non, o.h)) q3 s' w'.hr rfl
        exact q6 φ3 H' .non s3 hr3 rv3
      | rt r =>
        rw [hfl] at f2
        simp only at f2
        intro v rv
        split at f2
        · rcases frz_ok (r := (r, o.h)) q3 s' w'.hr rv f2 with ⟨d, ws, rfl, hd, kk⟩ | ⟨φ3, s3, hr3, rv3⟩
          · right
            exact ⟨d, ws, rfl, hd, fun od => q6 φ _ _ (kk od).1 (kk od).2.1 (kk od).2.2⟩
          · left
            exact q6 φ3 H' v s3 hr3 rv3
        · cases f2
          obtain ⟨φ3, s3, hr3, rv3⟩ := gc_ok (r := (r, o.h)) q3 s' w'.hr rv
          exact .inl (q6 φ3 H' v s3 hr3 rv3)
      | bk => rw [hfl] at f2; cases f2
      | ct => rw [hfl] at f2; cases f2
    · cases q5
theorem fn_all (M : ModSt K cs mg g) (GI : GenIn K mg base cs) : ∀ (k : Nat) (f : Str) (i : FnI), g.fns.lookup f = some i → ∃ a fd ps, mg f = some (.ref a) ∧ PySem.W.keepIn K (.ref a) = true ∧ Binds K fd ps [] ∧ ps.length = i.np ∧ FnOk P w K mg base CX0 k a fd ps (spM K g k f)
  | 0, f, i, hf => by
    obtain ⟨a, fd, st, ps, e1, e2, e3, e4, e5, e6, e7⟩ := (M.fns f i hf).ex
    refine ⟨a, fd, ps, e1, e2.kp, e5, e4, ⟨fun vs H Q E hh => ?_, fun A outer s H args us vs Q E hr he hb hv hh => ?_⟩⟩
    · obtain ⟨i', φ, h, ms, r, q1, q2, q3, q4, q5, q6⟩ := hh
      simp only [run] at q5
      cases q5
    · obtain ⟨i', φ, h, ms, r, q1, q2, q3, q4, q5, q6⟩ := hh
      simp only [run] at q5
      cases q5
  | k + 1, f, i, hf => by
    obtain ⟨a, fd, st, ps, e1, F, e3, e4, e5, e6, e7⟩ := (M.fns f i hf).ex
    exact ⟨a, fd, ps, e1, F.kp, e5, e4, fn_step M GI (fn_all M GI k) F e3 e4 hf e6 e7⟩
theorem fn_at (M : ModSt K cs mg g) (GI : GenIn K mg base cs) {k : Nat} {f : Str} {i : FnI} {a : Addr} {fd : FuncData} {st : Stmt} {ps : List Str} (F : Fun K f f st a fd) (e3 : FnScope i.names ps (defScope st)) (e4 : ps.length = i.np) (hf : g.fns.lookup f = some i) (e6 : chkSs g ⟨i.names, defScope st, fun _ => true, i.gen⟩ (defBody st) i.body = true) (e7 : GenOf cs i fd.code) :
    FnOk P w K mg base CX0 (k + 1) a fd ps (spM K g (k + 1) f) := fn_step M GI (fn_all M GI k) F e3 e4 hf e6 e7
/-- a def as the top has left it -/
structure DefAt (K : Fra) (f : Str) (st : Stmt) : Prop where
  ex : ∃ (ad : Addr) (oc : Value) (od : Option Addr) (kV dc pm : Value) (an : Option Addr) (cd ct : Value) (sl : Array (Option Value)), PySem.W.nsIn K mainGlobals f = some (some (.ref ad)) ∧
    K.lookup ad = some ⟨oc, od, .func (PySem.W.fnOf f f (defArgs st) (defBody st) (defScope st) .none kV dc pm an cd ct), sl⟩ ∧ PySem.W.codeIn K cd f = true ∧ PySem.W.keepIn K (.ref ad) = true
structure CnAt (K : Fra) (x : Str) (m : MV) : Prop where
  ex : ∃ (u : Value) (w : V), PySem.W.nsIn K mainGlobals x = some (some u) ∧ RelV w u ∧ ∀ H, RV K [] H w m
theorem defAt {f : Str} {st : Stmt} {ad : Addr} {oc : Value} {od : Option Addr} {kV dc pm : Value} {an : Option Addr} {cd ct : Value} {sl : Array (Option Value)} (e1 : PySem.W.nsIn K mainGlobals f = some (some (.ref ad)))
    (e2 : K.lookup ad = some ⟨oc, od, .func (PySem.W.fnOf f f (defArgs st) (defBody st) (defScope st) .none kV dc pm an cd ct), sl⟩) (e3 : PySem.W.codeIn K cd f = true) (e4 : PySem.W.keepIn K (.ref ad) = true) : DefAt K f st :=
  ⟨ad, oc, od, kV, dc, pm, an, cd, ct, sl, e1, e2, e3, e4⟩
theorem cnInt {x : Str} {i : Int} {t : Tok} (e1 : PySem.W.nsIn K mainGlobals x = some (some (.int i t))) : CnAt K x (.int i) := ⟨.int i t, .int i, e1, ⟨t, rfl⟩, fun _ => rfl⟩
theorem fnst {h : Heap} {f : Str} {i : FnI} {st : Stmt} {ps : List Str} (X : K.In h) (G : h.Ns mainGlobals mg) (d : DefAt K f st) (S : FnScope i.names ps (defScope st)) (hp : ps.length = i.np)
    (hb : ∀ (kV dc pm : Value) (an : Option Addr) (cd ct : Value) (us : List Value), us.length = ps.length → bindArgs (PySem.W.fnOf f f (defArgs st) (defBody st) (defScope st) .none kV dc pm an cd ct) ⟨us, []⟩ = pure (ps.zip us))
    (hc : chkSs g ⟨i.names, defScope st, fun _ => true, i.gen⟩ (defBody st) i.body = true) (hgen : i.gen = false) : FnSt K cs mg g f i := by
  obtain ⟨ad, oc, od, kV, dc, pm, an, cd, ct, sl, e1, e2, e3, e4⟩ := d.ex
  have F := fun_mk (st := st) e2 e3 e4
  exact ⟨ad, _, st, ps, PySem.W.mg_of X G e1, F, S, hp, F.binds hb, hc, fun z => by rw [hgen] at z; cases z⟩
theorem fnstG {h : Heap} {f : Str} {i : FnI} {st : Stmt} {ps : List Str} {ad c : Addr} {oc : Value} {od : Option Addr} {kV dc pm : Value} {an : Option Addr} {ct : Value} {sl : Array (Option Value)} (X : K.In h) (G : h.Ns mainGlobals mg) (e1 : PySem.W.nsIn K mainGlobals f = some (some (.ref ad)))
    (e2 : K.lookup ad = some ⟨oc, od, .func (PySem.W.fnOf f f (defArgs st) (defBody st) (defScope st) .none kV dc pm an (.ref c) ct), sl⟩) (e3 : PySem.W.codeIn K (.ref c) f = true) (e4 : PySem.W.keepIn K (.ref ad) = true) (S : FnScope i.names ps (defScope st)) (hp : ps.length = i.np)
    (hb : ∀ (kV dc pm : Value) (an : Option Addr) (cd ct : Value) (us : List Value), us.length = ps.length → bindArgs (PySem.W.fnOf f f (defArgs st) (defBody st) (defScope st) .none kV dc pm an cd ct) ⟨us, []⟩ = pure (ps.zip us))
    (hc : chkSs g ⟨i.names, defScope st, fun _ => true, i.gen⟩ (defBody st) i.body = true) {P : Addr} (hm : (c, P) ∈ cs) : FnSt K cs mg g f i := by
  have F := fun_mk (st := st) e2 e3 e4
  exact ⟨ad, _, st, ps, PySem.W.mg_of X G e1, F, S, hp, F.binds hb, hc, fun _ => ⟨(c, P), hm, rfl⟩⟩
theorem all_nil {α : Type} {Q : α → Prop} : ∀ p ∈ ([] : List α), Q p := fun p h => by simp at h
theorem all_cons {α : Type} {Q : α → Prop} {x : α} {xs : List α} (a : Q x) (b : ∀ p ∈ xs, Q p) : ∀ p ∈ x :: xs, Q p := fun p h => by
  rcases List.mem_cons.mp h with e | e
  · rw [e]; exact a
  · exact b p e
theorem modst {h : Heap} (X : K.In h) (G : h.Ns mainGlobals mg) (fs : ∀ p ∈ g.fns, FnSt K cs mg g p.1 p.2) (cn : ∀ p ∈ g.cns, CnAt K p.1 p.2) (bs : ∀ x ∈ bltNames, PySem.W.nsIn K mainGlobals x = some none) : ModSt K cs mg g where
  fns := fun f i e => fs (f, i) (PySem.mem_of_lookup e)
  cns := fun x m e => by
    obtain ⟨u, w, e1, e2, e3⟩ := (cn (x, m) (PySem.mem_of_lookup e)).ex
    exact ⟨u, w, PySem.W.mg_of X G e1, e2, e3⟩
  blt := fun x hx => PySem.W.mg_none_of X G (bs x hx)
/-- the law's def and its promise -/
theorem law_mk {h : Heap} {fa : Addr} {k : Nat} {i : FnI} {st : Stmt} (X : K.In h) (G : h.Ns mainGlobals mg) (hfa : mg ("law" : Str) = some (.ref fa)) (d : DefAt K "law" st) (hi : g.fns.lookup ("law" : Str) = some i) (M : ModSt K cs mg g) (hgen : i.gen = false)
    (hbd : ∀ (kV dc pm : Value) (an : Option Addr) (cd ct : Value) (s : Shared) (v : Value), BindsTo s (PySem.W.fnOf "law" "law" (defArgs st) (defBody st) (defScope st) .none kV dc pm an cd ct) ⟨[v], []⟩ [("script", v)])
    (hp : ∀ (kV dc pm : Value) (an : Option Addr) (cd ct : Value), FnScope i.names ["script"] (defScope st)) (hnp : i.np = 1)
    (hc : chkSs g ⟨i.names, defScope st, fun _ => true, i.gen⟩ (defBody st) i.body = true) :
    ∃ fd : FuncData, (∀ (s : Shared) (v : Value), BindsTo s fd ⟨[v], []⟩ [("script", v)]) ∧ ∀ base : Heap, GenIn K mg base cs → FnOk P w K mg base CX0 (k + 1) fa fd ["script"] (spM K g (k + 1) "law") := by
  obtain ⟨ad, oc, od, kV, dc, pm, an, cd, ct, sl, e1, e2, e3, e4⟩ := d.ex
  have e := hfa.symm.trans (PySem.W.mg_of X G e1)
  cases e
  refine ⟨_, hbd kV dc pm an cd ct, fun base GI => ?_⟩
  have F := fun_mk (st := st) e2 e3 e4
  exact fn_at M GI F (hp kV dc pm an cd ct) (by rw [hnp]; rfl) hi hc fun z => by rw [hgen] at z; cases z
/-- the script as the small language sees it -/
def scriptM (ns : List Int) : MV := .frl (ns.map .int)
theorem rvs_ints {φ : List Addr} {H : Hp} : ∀ ns : List Int, RVs K φ H (ns.map V.int) (ns.map MV.int)
  | [] => rfl
  | n :: ns => ⟨.int n, ns.map V.int, rfl, rfl, rvs_ints ns⟩
end
end MP
namespace MP
open PySem PySem.Spec PyProof.Rows L2
def marker (ps : List Addr) : Obj := { cls := .type "MP.tables", data := .fields (ps.map Value.ref).toArray }
def without (ps : List Addr) : Fra → Fra
  | [] => []
  | x :: r => if ps.contains x.1 = true then without ps r else x :: without ps r
def adj (ps : List Addr) (K : Fra) : Fra := match without ps K with
  | [] => []
  | x :: r => (x :: r) ++ [(x.1, marker ps)]
theorem without_lookup (ps : List Addr) {a : Addr} (ha : a ∉ ps) : ∀ K : Fra, (without ps K).lookup a = K.lookup a
  | [] => rfl
  | x :: r => by
    have ih := without_lookup ps ha r
    unfold without
    split
    · rename_i h
      have hx : x.1 ∈ ps := by simpa using h
      have : (a == x.1) = false := by
        rw [beq_eq_false_iff_ne]
        exact fun z => ha (by rw [z]; exact hx)
      rw [ih, List.lookup_cons, this]
    · rw [List.lookup_cons, List.lookup_cons, ih]
theorem without_none (ps : List Addr) {a : Addr} (ha : a ∈ ps) : ∀ K : Fra, (without ps K).lookup a = none
  | [] => rfl
  | x :: r => by
    have ih := without_none ps ha r
    unfold without
    split
    · exact ih
    · rename_i h
      have hx : x.1 ∉ ps := by simpa using h
      have : (a == x.1) = false := by
        rw [beq_eq_false_iff_ne]
        exact fun z => hx (by rw [← z]; exact ha)
      rw [List.lookup_cons, this, ih]
theorem lookup_dup {x : Addr × Obj} {r : Fra} {m : Obj} {a : Addr} : (x :: r ++ [(x.1, m)]).lookup a = (x :: r).lookup a := by
  rw [List.cons_append, List.lookup_cons, List.lookup_cons]
  cases h : a == x.1 with
  | true => rfl
  | false =>
    simp only
    induction r with
    | nil => simp [List.lookup, h]
    | cons y r ih =>
      rw [List.cons_append, List.lookup_cons, List.lookup_cons, ih]
theorem adj_lookup' (ps : List Addr) (K : Fra) (a : Addr) : (adj ps K).lookup a = (without ps K).lookup a := by
  unfold adj
  split
  · rename_i h; rw [h]
  · rename_i x r h
    rw [h]; exact lookup_dup
theorem adj_lookup {ps : List Addr} {K : Fra} {a : Addr} (ha : a ∉ ps) : (adj ps K).lookup a = K.lookup a := by rw [adj_lookup', without_lookup ps ha]
theorem adj_none {ps : List Addr} {K : Fra} {a : Addr} (ha : a ∈ ps) : (adj ps K).lookup a = none := by rw [adj_lookup', without_none ps ha]
theorem adj_in {ps : List Addr} {K : Fra} {h : Heap} (X : K.In h) : (adj ps K).In h := fun a o e => by
  by_cases ha : a ∈ ps
  · rw [adj_none ha] at e; cases e
  · rw [adj_lookup ha] at e; exact X a o e
theorem adj_tabs {ps : List Addr} {K : Fra} (hn : without ps K ≠ []) : tabsIn (adj ps K) = ps := by
  unfold adj
  split
  · rename_i h; exact absurd h hn
  · rename_i x r h
    unfold tabsIn
    rw [List.getLast?_append]
    simp [marker]
    have : ∀ l : List Addr, l.filterMap ((fun v : Value => match v with | .ref a => some a | _ => none) ∘ Value.ref) = l := by
      intro l
      induction l with
      | nil => rfl
      | cons a l ih =>
        exact (List.filterMap_cons ..).trans (congrArg (a :: ·) ih)
    exact this ps
theorem adj_ns {ps : List Addr} {K : Fra} {D : Addr} {x : Str} (hD : D ∉ ps) : PySem.W.nsIn (adj ps K) D x = PySem.W.nsIn K D x := by
  unfold PySem.W.nsIn
  rw [adj_lookup hD]
theorem adj_code {ps : List Addr} {K : Fra} {c : Addr} {x : Str} (hc : c ∉ ps) : PySem.W.codeIn (adj ps K) (.ref c) x = PySem.W.codeIn K (.ref c) x := by
  unfold PySem.W.codeIn
  simp only [adj_lookup hc]
theorem adj_keep {ps : List Addr} {K : Fra} {f : Addr} {oc : Value} {od : Option Addr} {fd : FuncData} {sl : Array (Option Value)} (hf : f ∉ ps) (e : K.lookup f = some ⟨oc, od, .func fd, sl⟩) : PySem.W.keepIn (adj ps K) (.ref f) = true := by
  unfold PySem.W.keepIn
  simp only [adj_lookup hf, e]
end MP
namespace MP
open PySem PySem.Spec PyProof.Rows L2
section
variable {P : Program} {w : World} {K : Fra} {mg : Str → Option Value} {base : Heap} {g : Mod}
theorem fn_or {k : Nat} {f : Addr} {fd : FuncData} {ps : List Str} {sp sp' : Sp} (F : FnOk P w K mg base CX0 k f fd ps sp) (G : FnOk P w K mg base CX0 k f fd ps sp') : FnOk P w K mg base CX0 k f fd ps (fun vs H Q E => sp vs H Q E ∨ sp' vs H Q E) where
  len := fun vs H Q E h => h.elim (F.len vs H Q E) (G.len vs H Q E)
  run := fun A outer s H args us vs Q E hr he hb hv h => h.elim (F.run A outer s H args us vs Q E hr he hb hv) (G.run A outer s H args us vs Q E hr he hb hv)
theorem sp_lawT {k : Nat} {i : FnI} {H : Hp} {a : Addr} {ns : List Int} {Q : VK} {E : XK} (htb : ∀ P ∈ tabsIn K, GxR.TabG H P) (hi : g.fns.lookup ("law" : Str) = some i) (hnp : i.np = 1) (hz : ns.length ≤ 63) (hf : FrL K H a (ns.map V.int)) (hQ : ∀ H', Q (.bl true) H')
    (hrun : ∃ h', run g k "law" [scriptM ns] [] = some (.bl true, h')) : spM K g k "law" [.ref a] H Q E := by
  obtain ⟨h', e⟩ := hrun
  refine ⟨i, [], [], [scriptM ns], _, hi, by rw [hnp]; rfl, ⟨rfl, List.nodup_nil, htb, fun j a o z => by simp at z⟩, ?_, e, fun φ' H' v _ _ rv => by rw [show v = .bl true from rv]; exact hQ H'⟩
  exact .one ⟨a, ns.map V.int, rfl, hf, rvs_ints ns, by rw [List.length_map]; exact Nat.le_trans hz (by decide)⟩
/-- no fact is of a list -/
def noLst (K : Fra) : Bool := K.all fun p => match p.2.cls with
  | .type s => s != "list"
  | _ => true
theorem noLst_at {K : Fra} {a : Addr} {o : Obj} (h : noLst K = true) (e : K.lookup a = some o) : o.cls ≠ .type "list" := fun z => by
  have mem : ∀ K : Fra, K.lookup a = some o → (a, o) ∈ K := by
    intro K
    induction K with
    | nil => intro e; cases e
    | cons x r ih =>
      intro e
      rw [List.lookup_cons] at e
      cases hx : a == x.1 with
      | true =>
        rw [hx] at e
        cases e
        rw [eq_of_beq hx]; exact List.mem_cons_self
      | false =>
        rw [hx] at e
        exact List.mem_cons_of_mem _ (ih e)
  have := List.all_eq_true.mp h (a, o) (mem K e)
  simp only [z] at this
  exact absurd this (by decide)
theorem lawAtS_of {l : PySem.W.OpenLaw} {K : Fra} {ps : List Addr} {cs : List (Addr × Addr)} {k : Nat} {i : FnI} {fa : Addr} {fd : FuncData} {h : Heap} (hps : ps = cs.map (·.2)) (hw : without ps K ≠ []) (hnl : noLst K = true) (hT : ∀ p ∈ cs, h.get? p.2 = some { cls := .none, data := .fields #[] }) (hC : ∀ p ∈ cs, PySem.W.CodeHd h p.1 p.2)
    (hb : ∀ (s : Shared) (u : Value), BindsTo s fd ⟨[u], []⟩ [("script", u)]) (hi : g.fns.lookup ("law" : Str) = some i) (hnp : i.np = 1)
    (F : ∀ base : Heap, GenIn (adj ps K) mg base cs → FnOk l.prog w (adj ps K) mg base CX0 k fa fd ["script"] (spM (adj ps K) g k "law"))
    (hrun : ∀ ns : List Int, ns.length ≤ 63 → ∃ h', run g k "law" [scriptM ns] [] = some (.bl true, h')) : LamX.LawAtS l w (adj ps K) CX0 k 63 "script" mg fa h := by
  have ht : tabsIn (adj ps K) = ps := adj_tabs hw
  refine ⟨fd, cs, _, hT, fun p hp => adj_none (by rw [hps]; exact List.mem_map.mpr ⟨p, hp, rfl⟩), hC, hb, fun H a ns hn _ hH hS => ?_, fun base _ _ hTB => fn_or (fn_frz (F base ?_)) (F base ?_)⟩
  · have tb : ∀ P ∈ tabsIn (adj ps K), H P = some (.tbl #[]) := fun P hP => by
      rw [ht, hps] at hP
      obtain ⟨p, hp, rfl⟩ := List.mem_map.mp hP
      exact hH p hp
    rcases hS with (e | ⟨o, e⟩) | e
    · left
      refine ⟨a, _, e, fun od => sp_lawT (fun P hP => ?_) hi hnp hn ⟨od, upd_same⟩ (fun _ _ => rfl) (hrun ns hn)⟩
      have e1 := tb P hP
      exact ⟨#[], by rw [upd_ne (fun z => by rw [z, e] at e1; cases e1)]; exact e1, True.intro⟩
    · right
      exact sp_lawT (fun P hP => ⟨#[], tb P hP, True.intro⟩) hi hnp hn ⟨o, e⟩ (fun _ => rfl) (hrun ns hn)
    · obtain ⟨o, its, n, e1, e2, _⟩ := e
      by_cases ha : a ∈ ps
      · rw [adj_none ha] at e1; cases e1
      · rw [adj_lookup ha] at e1
        exact absurd e2 (noLst_at hnl e1)
  · exact fun p hp => ⟨⟨(hTB p hp).code, (hTB p hp).bm, (hTB p hp).gP⟩, by rw [ht, hps]; exact List.mem_map.mpr ⟨p, hp, rfl⟩⟩
  · exact fun p hp => ⟨⟨(hTB p hp).code, (hTB p hp).bm, (hTB p hp).gP⟩, by rw [ht, hps]; exact List.mem_map.mpr ⟨p, hp, rfl⟩⟩
end
end MP
namespace MP
open PySem PySem.Spec PyProof.Rows L2
section
variable {K : Fra} {ps : List Addr} {mg : Str → Option Value} {g : Mod} {cs : List (Addr × Addr)}
theorem defAtA {f : Str} {st : Stmt} {ad c : Addr} {oc : Value} {od : Option Addr} {kV dc pm : Value} {an : Option Addr} {ct : Value} {sl : Array (Option Value)} (e1 : PySem.W.nsIn K mainGlobals f = some (some (.ref ad)))
    (e2 : K.lookup ad = some ⟨oc, od, .func (PySem.W.fnOf f f (defArgs st) (defBody st) (defScope st) .none kV dc pm an (.ref c) ct), sl⟩) (e3 : PySem.W.codeIn K (.ref c) f = true) (n : (ps.contains mainGlobals || ps.contains ad || ps.contains c) = false) : DefAt (adj ps K) f st := by
  simp only [Bool.or_eq_false_iff, List.contains_eq_mem, decide_eq_false_iff_not] at n
  obtain ⟨⟨n1, n2⟩, n3⟩ := n
  exact ⟨ad, oc, od, kV, dc, pm, an, .ref c, ct, sl, by rw [adj_ns n1]; exact e1, by rw [adj_lookup n2]; exact e2, by rw [adj_code n3]; exact e3, adj_keep n2 e2⟩
/-- a def whose code object is known -/
structure DefG (K : Fra) (f : Str) (st : Stmt) (c : Addr) : Prop where
  ex : ∃ (ad : Addr) (oc : Value) (od : Option Addr) (kV dc pm : Value) (an : Option Addr) (ct : Value) (sl : Array (Option Value)), PySem.W.nsIn K mainGlobals f = some (some (.ref ad)) ∧
    K.lookup ad = some ⟨oc, od, .func (PySem.W.fnOf f f (defArgs st) (defBody st) (defScope st) .none kV dc pm an (.ref c) ct), sl⟩ ∧ PySem.W.codeIn K (.ref c) f = true ∧ PySem.W.keepIn K (.ref ad) = true
theorem defGA {f : Str} {st : Stmt} {ad c : Addr} {oc : Value} {od : Option Addr} {kV dc pm : Value} {an : Option Addr} {ct : Value} {sl : Array (Option Value)} (e1 : PySem.W.nsIn K mainGlobals f = some (some (.ref ad)))
    (e2 : K.lookup ad = some ⟨oc, od, .func (PySem.W.fnOf f f (defArgs st) (defBody st) (defScope st) .none kV dc pm an (.ref c) ct), sl⟩) (e3 : PySem.W.codeIn K (.ref c) f = true) (n : (ps.contains mainGlobals || ps.contains ad || ps.contains c) = false) : DefG (adj ps K) f st c := by
  simp only [Bool.or_eq_false_iff, List.contains_eq_mem, decide_eq_false_iff_not] at n
  obtain ⟨⟨n1, n2⟩, n3⟩ := n
  exact ⟨ad, oc, od, kV, dc, pm, an, ct, sl, by rw [adj_ns n1]; exact e1, by rw [adj_lookup n2]; exact e2, by rw [adj_code n3]; exact e3, adj_keep n2 e2⟩
theorem fnstD {h : Heap} {f : Str} {i : FnI} {st : Stmt} {pn : List Str} {c P : Addr} (X : K.In h) (G : h.Ns mainGlobals mg) (d : DefG K f st c) (S : FnScope i.names pn (defScope st)) (hp : pn.length = i.np)
    (hb : ∀ (kV dc pm : Value) (an : Option Addr) (cd ct : Value) (us : List Value), us.length = pn.length → bindArgs (PySem.W.fnOf f f (defArgs st) (defBody st) (defScope st) .none kV dc pm an cd ct) ⟨us, []⟩ = pure (pn.zip us))
    (hc : chkSs g ⟨i.names, defScope st, fun _ => true, i.gen⟩ (defBody st) i.body = true) (hm : (c, P) ∈ cs) : FnSt K cs mg g f i := by
  obtain ⟨ad, oc, od, kV, dc, pm, an, ct, sl, e1, e2, e3, e4⟩ := d.ex
  exact fnstG X G e1 e2 e3 e4 S hp hb hc hm
theorem cnIntA {x : Str} {i : Int} {t : Tok} (e1 : PySem.W.nsIn K mainGlobals x = some (some (.int i t))) (n : ps.contains mainGlobals = false) : CnAt (adj ps K) x (.int i) := by
  have n : mainGlobals ∉ ps := by simpa using n
  exact cnInt (by rw [adj_ns n]; exact e1)
theorem nsA {x : Str} {r : Option (Option Value)} (e1 : PySem.W.nsIn K mainGlobals x = r) (n : ps.contains mainGlobals = false) : PySem.W.nsIn (adj ps K) mainGlobals x = r := by
  have n : mainGlobals ∉ ps := by simpa using n
  rw [adj_ns n]; exact e1
end
end MP
namespace MP
open PySem PySem.Spec PyProof.Rows L2
section
variable {K : Fra} {ps : List Addr}
theorem cnTup1A {x z : Str} {a : Addr} {t : Tok} {od : Option Addr} {n : Nat} {sl : Array (Option Value)} (e1 : PySem.W.nsIn K mainGlobals x = some (some (.ref a))) (e2 : K.lookup a = some { cls := .type "tuple", dict := od, data := .seq #[.str z t] n, slots := sl }) (hz : z.length ≤ 1000) (hn : (ps.contains mainGlobals || ps.contains a) = false) :
    CnAt (adj ps K) x (.tup [.str z]) := by
  simp only [Bool.or_eq_false_iff, List.contains_eq_mem, decide_eq_false_iff_not] at hn
  refine ⟨.ref a, .ref a, by rw [adj_ns hn.1]; exact e1, rfl, fun H => ⟨a, [.str z], rfl, .inr ?_, ⟨.str z, [], rfl, ⟨rfl, Nat.le_trans hz (by decide)⟩, rfl⟩, by show 1 ≤ sizeLine; decide⟩⟩
  exact ⟨_, #[.str z t], n, by rw [adj_lookup hn.2]; exact e2, rfl, rfl, by show 1 ≤ sizeLine; decide, .cons ⟨t, rfl⟩ .nil⟩
end
end MP
namespace MP
open PySem PySem.Spec PyProof.Rows L2
theorem without_ne {ps : List Addr} {K : Fra} {a : Addr} {o : Obj} (n : ps.contains a = false) (e : K.lookup a = some o) : without ps K ≠ [] := fun z => by
  have n : a ∉ ps := by simpa using n
  have := without_lookup ps n K
  rw [z, e] at this
  cases this
end MP
namespace MP
open PySem LamX PyProof.Rows
theorem walk_adj {ps : List Addr} {l : PySem.W.OpenLaw} {n k : Nat} {q : Program} {loose : List Str} {XP : (Str → Option Value) → Heap → Prop} {YP : World → Heap → Prop} {d : DefRec} {K : Params → PySem.W.Frag} {CX : World → L2.CXT} {x : Str}
    (hn : l.most = some n) (hn2 : n ≤ sizeLine) (hdf : d.params.defaults = []) (hr : L2.Room k callerA) (hY : ∀ (w : World) (h : Heap), YP w h → (K w.params).In h)
    (F : ∀ (w : World) (mg : Str → Option Value) (fa : Addr) (h : Heap), YP w h → (adj ps (K w.params)).In h → h.Ns mainGlobals mg → mg d.name = some (.ref fa) → LamX.LawAtS l w (adj ps (K w.params)) (CX w) k n x mg fa h)
    (hCX : ∀ (w : World) (H : L2.Hp) (s : Shared) (e : Value) (s' : Shared), CX w [] H s (fun _ _ _ => False) e s' → False) :
    PySem.W.WalkO q loose XP YP l.row.toRowW d [] (fun f vs => PySem.call f vs) :=
  LamX.walk_ofTs (K := fun p => adj ps (K p)) hn hn2 hdf hr (fun w h Y => adj_in (hY w h Y)) F hCX
/-- the code object's head, from the entry alone -/
theorem codeHd_o {K : PySem.W.Frag} {h : Heap} {c P : Addr} {o : Obj} (X : K.In h) (e : K.lookup c = some o) (d : PySem.W.codeHdIn [(c, o)] c P = true) : PySem.W.CodeHd h c P := by
  refine PySem.W.codeHd_of_K X ?_
  unfold PySem.W.codeHdIn at d ⊢
  rw [e]
  simpa [List.lookup] using d
end MP
namespace MP
open PySem
mutual
def MV.data : MV → Bool
  | .ref _ => false
  | .tup xs => dataAll xs
  | .frl xs => dataAll xs
  | _ => true
def dataAll : List MV → Bool
  | [] => true
  | x :: xs => MV.data x && dataAll xs
end
mutual
theorem lt_data : ∀ {m : MV} {n : Nat}, m.data = true → m.lt n
  | .non, _, _ => by unfold MV.lt; exact True.intro
  | .bl _, _, _ => by unfold MV.lt; exact True.intro
  | .int _, _, _ => by unfold MV.lt; exact True.intro
  | .str _, _, _ => by unfold MV.lt; exact True.intro
  | .tup xs, n, h => by
    unfold MV.lt
    exact lt_dataAll (by simpa [MV.data] using h)
  | .frl xs, n, h => by
    unfold MV.lt
    exact lt_dataAll (by simpa [MV.data] using h)
  | .ref _, _, h => by simp [MV.data] at h
theorem lt_dataAll : ∀ {m : List MV} {n : Nat}, dataAll m = true → ltAll n m
  | [], _, _ => by unfold ltAll; exact True.intro
  | x :: xs, n, h => by
    simp only [dataAll, Bool.and_eq_true] at h
    unfold ltAll
    exact ⟨lt_data h.1, lt_dataAll h.2⟩
end
theorem dataAll_iff {xs : List MV} : dataAll xs = true ↔ ∀ x ∈ xs, x.data = true := by
  induction xs with
  | nil => simp [dataAll]
  | cons x xs ih => simp [dataAll, ih]
@[simp] theorem data_int (i : Int) : (MV.int i).data = true := by simp only [MV.data]
@[simp] theorem data_bl (i : Bool) : (MV.bl i).data = true := by simp only [MV.data]
@[simp] theorem data_non : (MV.non).data = true := by simp only [MV.data]
@[simp] theorem data_str (i : Str) : (MV.str i).data = true := by simp only [MV.data]
@[simp] theorem data_tup (xs : List MV) : (MV.tup xs).data = dataAll xs := by simp [MV.data]
@[simp] theorem data_frl (xs : List MV) : (MV.frl xs).data = dataAll xs := by simp [MV.data]
@[simp] theorem dataAll_nil : dataAll [] = true := by simp [dataAll]
@[simp] theorem dataAll_cons (x : MV) (xs : List MV) : dataAll (x :: xs) = (x.data && dataAll xs) := by simp [dataAll]
@[simp] theorem dataAll_append (xs ys : List MV) : dataAll (xs ++ ys) = (dataAll xs && dataAll ys) := by
  induction xs with
  | nil => simp
  | cons x xs ih => simp [ih, Bool.and_assoc]
@[simp] theorem dataAll_ints (xs : List Int) : dataAll (xs.map MV.int) = true := by
  rw [dataAll_iff]; intro x hx; simp at hx; obtain ⟨a, _, rfl⟩ := hx; rfl
theorem gc_app {h j : MH} {v : MV} (hv : v.data = true) : gc h (v, h ++ j) = (v, h) := by
  unfold gc
  have c : h.length ≤ (h ++ j).length ∧ ∀ i o, i < h.length → (h ++ j)[i]? = some o → h[i]? = some o ∨ o.lt h.length :=
    ⟨by simp, fun i o hi q => .inl (by rwa [List.getElem?_append_left hi] at q)⟩
  rw [if_pos c, if_pos (lt_data hv)]
  simp
theorem gc_same {h : MH} {v : MV} (hv : v.data = true) : gc h (v, h) = (v, h) := gc_self (lt_data hv)
/-- old places changed, each to things that name old places -/
theorem gc_upd {h h' j : MH} {v : MV} (hl : h'.length = h.length) (ho : ∀ i o, i < h.length → h'[i]? = some o → h[i]? = some o ∨ o.lt h.length) (hv : v.lt h.length) : gc h (v, h' ++ j) = (v, h') := by
  unfold gc
  have c : h.length ≤ (h' ++ j).length ∧ ∀ i o, i < h.length → (h' ++ j)[i]? = some o → h[i]? = some o ∨ o.lt h.length :=
    ⟨by simp [hl], fun i o hi q => ho i o hi (by rwa [List.getElem?_append_left (by rw [hl]; exact hi)] at q)⟩
  rw [if_pos c, if_pos hv]
  simp [← hl]
/-- a new list is handed on -/
theorem gc_lst {h h' j : MH} {i : Nat} {o : MO} (hl : h'.length = h.length) (ho : ∀ i o, i < h.length → h'[i]? = some o → h[i]? = some o ∨ o.lt h.length) (hj : j[i]? = some o) (hlt : o.lt h.length) :
    gc h (.ref (h.length + i), h' ++ j) = (.ref h.length, h' ++ [o]) := by
  unfold gc
  have c : h.length ≤ (h' ++ j).length ∧ ∀ i o, i < h.length → (h' ++ j)[i]? = some o → h[i]? = some o ∨ o.lt h.length :=
    ⟨by simp [hl], fun i o hi q => ho i o hi (by rwa [List.getElem?_append_left (by rw [hl]; exact hi)] at q)⟩
  have n : ¬ (MV.ref (h.length + i)).lt h.length := by unfold MV.lt; omega
  rw [if_pos c, if_neg n]
  have g : (h' ++ j)[h.length + i]? = some o := by
    rw [List.getElem?_append_right (by omega), hl, Nat.add_sub_cancel_left]; exact hj
  simp only [g]
  rw [if_pos hlt]
  simp [← hl]
end MP
namespace MP
open PySem
inductive PV where
  | d (v : MV) | own (xs : List MV)
  deriving Inhabited
abbrev PEnv := List (Option PV)
inductive Rd where
  | val (v : MV) | slot (i : Nat)
def toPV (r : R) : Option PV := match r with
  | some (v, []) => some (.d v)
  | some (.ref 0, [.lst xs]) => some (.own xs)
  | _ => none
def liftPV (env : PEnv) (r : R) : Option (PV × PEnv) := (toPV r).map fun w => (w, env)
def dOf (r : Option (PV × PEnv)) : Option (MV × PEnv) := r.bind fun q => match q.1 with
  | .d v => some (v, q.2)
  | .own _ => none
def rdV (env : PEnv) : Rd → Option MV
  | .val v => some v
  | .slot i => match env[i]? with
    | some (some (.d v)) => some v
    | some (some (.own xs)) => some (.frl xs)
    | _ => none
def rdVs (env : PEnv) : List Rd → Option (List MV)
  | [] => some []
  | r :: rs => (rdV env r).bind fun v => (rdVs env rs).map fun vs => v :: vs
/-- things that are not changed, by value -/
def dV (env : PEnv) : Rd → Option MV
  | .val v => some v
  | .slot i => match env[i]? with
    | some (some (.d v)) => some v
    | _ => none
def dVs (env : PEnv) : List Rd → Option (List MV)
  | [] => some []
  | r :: rs => (dV env r).bind fun v => (dVs env rs).map fun vs => v :: vs
def rdE (e : E) (ev : Option (PV × PEnv)) (env : PEnv) : Option (Rd × PEnv) := match e with
  | .var i => match env[i]? with
    | some (some _) => some (.slot i, env)
    | _ => none
  | _ => (dOf ev).map fun r => (.val r.1, r.2)
mutual
def bindP (t : Tg) (v : MV) (env : PEnv) : Option PEnv := match t with
  | .nm i => some (env.set i (some (.d v)))
  | .tup ts => match v with
    | .tup xs => bindPs ts xs env
    | _ => none
def bindPs (ts : List Tg) (vs : List MV) (env : PEnv) : Option PEnv := match ts with
  | [] => match vs with
    | [] => some env
    | _ => none
  | t :: ts => match vs with
    | v :: vs => (bindP t v env).bind fun e => bindPs ts vs e
    | [] => none
end
def wipeP (env : PEnv) : List Nat → PEnv
  | [] => env
  | i :: is => (wipeP env is).set i none
def restP (orig env : PEnv) : List Nat → PEnv
  | [] => env
  | i :: is => (restP orig env is).set i (match orig[i]? with
    | some (some (.d v)) => some (.d v)
    | _ => none)
/-- the items that are walked; the slot whose list is walked stands aside meanwhile -/
def itsX (env : PEnv) : Rd → Option (List MV × Option (Nat × List MV))
  | .val v => (seqM [] v).map fun xs => (xs, none)
  | .slot i => match env[i]? with
    | some (some (.d v)) => (seqM [] v).map fun xs => (xs, none)
    | some (some (.own xs)) => some (xs, some (i, xs))
    | _ => none
def moveOut (env : PEnv) : Option (Nat × List MV) → PEnv
  | none => env
  | some (i, _) => env.set i none
def moveIn (env : PEnv) : Option (Nat × List MV) → PEnv
  | none => env
  | some (i, xs) => env.set i (some (.own xs))
def itsP (k : IK) (env : PEnv) (rs : List Rd) : Option (List MV × Option (Nat × List MV)) := match k with
  | .ex => match rs with
    | [r] => itsX env r
    | _ => none
  | k => (dVs env rs).bind fun vs => (itsM k [] vs).map fun st => (st.items, none)
/-- arguments: a list that is changed is handed on, its slot stands empty meanwhile -/
def argsP (env : PEnv) : List Rd → Option ((List PV × List Nat) × PEnv)
  | [] => some (([], []), env)
  | .val v :: rs => (argsP env rs).map fun q => ((.d v :: q.1.1, q.1.2), q.2)
  | .slot i :: rs => match env[i]? with
    | some (some (.d v)) => (argsP env rs).map fun q => ((.d v :: q.1.1, q.1.2), q.2)
    | some (some (.own xs)) => (argsP (env.set i none) rs).map fun q => ((.own xs :: q.1.1, i :: q.1.2), q.2)
    | _ => none
def backP (env : PEnv) : List Nat → List (List MV) → Option PEnv
  | [], [] => some env
  | i :: is, xs :: xss => backP (env.set i (some (.own xs))) is xss
  | _, _ => none
def iceP : PV → PV
  | .own xs => .d (.frl xs)
  | .d v => .d v
def methP (m : Me) (env : PEnv) (j : Nat) (vs : List MV) : Option (PV × PEnv) := match env[j]? with
  | some (some (.own xs)) => match methM m [.lst xs] (.ref 0) vs with
    | some (v, [.lst ys]) => some (.d v, env.set j (some (.own ys)))
    | _ => none
  | _ => none
def gfP (i : Nat) (env : PEnv) (v : MV) : Option (PV × PEnv) := match env[i]? with
  | some (some (.d (.int t))) => liftPV env (gfM 0 [some (.int t)] (v, []))
  | _ => none
def compP (t : Tg) (own : List Nat) (tst elt : PEnv → Option (MV × PEnv)) : List MV → List MV → PEnv → Option (List MV × PEnv)
  | [], acc, env => some (acc, env)
  | v :: vs, acc, env => (bindP t v (wipeP env own)).bind fun e => (tst e).bind fun b => match b.1 with
    | .bl true => (elt b.2).bind fun r => compP t own tst elt vs (acc ++ [r.1]) r.2
    | .bl false => compP t own tst elt vs acc b.2
    | _ => none
section
variable (g : Mod) (cf : Str → List PV → Option (PV × List (List MV)))
mutual
def pX (e : E) (env : PEnv) : Option (PV × PEnv) := match e with
  | .var i => match env[i]? with
    | some (some (.d v)) => some (.d v, env)
    | _ => none
  | .non => some (.d .non, env)
  | .bl b => some (.d (.bl b), env)
  | .int i => some (.d (.int i), env)
  | .str x => some (.d (.str x), env)
  | .glob x => (g.cns.lookup x).bind fun v => if v.data = true then some (.d v, env) else none
  | .tup es => (pRds es env).bind fun r => (dVs r.2 r.1).map fun vs => (.d (.tup vs), r.2)
  | .lst es => (pRds es env).bind fun r => (dVs r.2 r.1).map fun vs => (.own vs, r.2)
  | .bin o a b => (rdE a (pX a env) env).bind fun x => (rdE b (pX b x.2) x.2).bind fun y => (rdV y.2 x.1).bind fun u => (rdV y.2 y.1).bind fun w => liftPV y.2 (binM o [] u w)
  | .neg a => (dOf (pX a env)).bind fun x => liftPV x.2 (negM (x.1, []))
  | .cmp o a b => (rdE a (pX a env) env).bind fun x => (rdE b (pX b x.2) x.2).bind fun y => (dV y.2 x.1).bind fun u => (rdV y.2 y.1).bind fun w => (cmpM o [] u w).map fun c => (.d (.bl c), y.2)
  | .chain o1 o2 a b c => (dOf (pX a env)).bind fun x => (dOf (pX b x.2)).bind fun y => (cmpM o1 [] x.1 y.1).bind fun c1 =>
      if c1 = true then (dOf (pX c y.2)).bind fun z => (cmpM o2 [] y.1 z.1).map fun c2 => (.d (.bl c2), z.2) else some (.d (.bl false), y.2)
  | .and a b => (dOf (pX a env)).bind fun x => (truth [] x.1).bind fun c => if c = true then (dOf (pX b x.2)).map fun y => (.d y.1, y.2) else some (.d x.1, x.2)
  | .or a b => (dOf (pX a env)).bind fun x => (truth [] x.1).bind fun c => if c = true then some (.d x.1, x.2) else (dOf (pX b x.2)).map fun y => (.d y.1, y.2)
  | .not a => (rdE a (pX a env) env).bind fun x => (rdV x.2 x.1).bind fun u => (truth [] u).map fun c => (.d (.bl (!c)), x.2)
  | .ife c a b => (rdE c (pX c env) env).bind fun x => (rdV x.2 x.1).bind fun u => (truth [] u).bind fun c => if c = true then pX a x.2 else pX b x.2
  | .idx a i => (rdE a (pX a env) env).bind fun x => (rdE i (pX i x.2) x.2).bind fun y => (rdV y.2 x.1).bind fun u => (rdV y.2 y.1).bind fun w => (atM [] u w).map fun v => (.d v, y.2)
  | .slice a lo hi => (rdE a (pX a env) env).bind fun x => (dOf (pX lo x.2)).bind fun l => (dOf (pX hi l.2)).bind fun u => (rdV u.2 x.1).bind fun v => (partM lo.isNon l.1).bind fun i => (partM hi.isNon u.1).bind fun j => liftPV u.2 (sliceM [] v i j)
  | .call f es => (pRds es env).bind fun r => (argsP r.2 r.1).bind fun q => (cf f q.1.1).bind fun z => (backP q.2 q.1.2 z.2).map fun env' => (z.1, env')
  | .bi f es => (pRds es env).bind fun r => (rdVs r.2 r.1).bind fun vs => liftPV r.2 (biM f [] vs)
  | .isi a t => (rdE a (pX a env) env).bind fun x => (rdV x.2 x.1).bind fun u => (isiM [] u t).map fun c => (.d (.bl c), x.2)
  | .meth m o es => match o with
    | .var j => (pRds es env).bind fun r => (dVs r.2 r.1).bind fun vs => methP m r.2 j vs
    | _ => none
  | .comp elt t k es cs own => if (slotsT t).all (fun i => (own.map (·.2)).contains i) = true then (pRds es env).bind fun r => (itsP k r.2 r.1).bind fun st =>
      (compP t (own.map (·.2)) (fun e => match cs with
        | [] => some (.bl true, e)
        | c :: _ => (rdE c (pX c e) e).bind fun x => (rdV x.2 x.1).bind fun u => (truth [] u).map fun b => (.bl b, x.2)) (fun e => dOf (pX elt e)) st.1 [] (moveOut r.2 st.2)).map fun q => (.own q.1, moveIn (restP (moveOut r.2 st.2) q.2 (own.map (·.2))) st.2) else none
  | .lrng k es => (pRds es env).bind fun r => (dVs r.2 r.1).bind fun vs => match k with
    | .ex => none
    | .enum => none
    | k => (itsM k [] vs).map fun st => (.own st.items, r.2)
  | .frz e => (pX e env).map fun r => (iceP r.1, r.2)
  | .back a => (dOf (pX a env)).bind fun x => liftPV x.2 (backM (x.1, []))
  | .gflt i a => (dOf (pX a env)).bind fun x => gfP i x.2 x.1
  | .lenset a => (rdE a (pX a env) env).bind fun x => (rdV x.2 x.1).bind fun u => liftPV x.2 (lsM (u, []))
def pRds (es : List E) (env : PEnv) : Option (List Rd × PEnv) := match es with
  | [] => some ([], env)
  | e :: es => (rdE e (pX e env) env).bind fun x => (pRds es x.2).map fun r => (x.1 :: r.1, r.2)
end
end
inductive PFl where
  | nx | rt (w : PV) | bk | ct
structure POut where
  fl : PFl
  env : PEnv
mutual
/-- the slots that a statement gives -/
def sas : S → List Nat
  | .asg t _ => slotsT t
  | .aug i _ _ => [i]
  | .ite _ a b => sasL a ++ sasL b
  | .for_ t _ _ body => slotsT t ++ sasL body
  | .while_ _ body => sasL body
  | _ => []
def sasL : List S → List Nat
  | [] => []
  | s :: ss => sas s ++ sasL ss
end
def forP (t : Tg) (body : PEnv → Option POut) : List MV → PEnv → Option POut
  | [], env => some ⟨.nx, env⟩
  | v :: vs, env => (bindP t v env).bind fun e => (body e).bind fun o => match o.fl with
    | .nx => forP t body vs o.env
    | .ct => forP t body vs o.env
    | .bk => some ⟨.nx, o.env⟩
    | .rt w => some o
def varsOf : List E → Option (List Nat)
  | [] => some []
  | .var i :: es => (varsOf es).map fun r => i :: r
  | _ => none
/-- for x in [a, b, ..], all of them names -/
def dispV : List E → Option (List Nat)
  | [.frz (.lst es)] => varsOf es
  | _ => none
def isSet (env : PEnv) (j : Nat) : Bool := match env[j]? with
  | some (some _) => true
  | _ => false
def isOwn (env : PEnv) (j : Nat) : Bool := match env[j]? with
  | some (some (.own _)) => true
  | _ => false
/-- each name's thing in its turn; a list that is changed moves to the loop's name and back -/
def forV (np i : Nat) (body : PEnv → Option POut) : List Nat → PEnv → Option POut
  | [], env => some ⟨.nx, env⟩
  | j :: js, env => match env[j]? with
    | some (some (.d v)) => (body (env.set i (some (.d v)))).bind fun o => match o.fl with
      | .nx => forV np i body js o.env
      | .ct => forV np i body js o.env
      | .bk => some ⟨.nx, o.env⟩
      | .rt w => some o
    | some (some (.own xs)) => if np ≤ j then (body ((env.set j none).set i (some (.own xs)))).bind fun o => match o.env[i]? with
        | some (some (.own ys)) => match o.fl with
          | .nx => forV np i body js ((o.env.set i none).set j (some (.own ys)))
          | .ct => forV np i body js ((o.env.set i none).set j (some (.own ys)))
          | .bk => some ⟨.nx, (o.env.set i none).set j (some (.own ys))⟩
          | .rt w => some ⟨.rt w, (o.env.set i none).set j (some (.own ys))⟩
        | _ => none
      else none
    | _ => none
def useV (t : Tg) (k : IK) (es : List E) (env : PEnv) (ns : List Nat) : Option (Nat × List Nat) := match k with
  | .ex => match t with
    | .nm i => match dispV es with
      | some js => if (js.any (isOwn env) && js.all (fun j => isSet env j && j != i && !ns.contains j) && !ns.contains i) = true then some (i, js) else none
      | none => none
    | _ => none
  | _ => none
def whileP (tst : PEnv → Option (MV × PEnv)) (body : PEnv → Option POut) : Nat → PEnv → Option POut
  | 0, _ => none
  | n + 1, env => (tst env).bind fun b => match b.1 with
    | .bl true => (body b.2).bind fun o => match o.fl with
      | .nx => whileP tst body n o.env
      | .ct => whileP tst body n o.env
      | .bk => some ⟨.nx, o.env⟩
      | .rt w => some o
    | .bl false => some ⟨.nx, b.2⟩
    | _ => none
def srcOk (ns : List Nat) : Option (Nat × List MV) → Bool
  | none => true
  | some (i, _) => !ns.contains i
def setP (env : PEnv) (j : Nat) (i v : MV) : Option POut := match env[j]? with
  | some (some (.own xs)) => match setM [.lst xs] (.ref 0) i v with
    | some [.lst ys] => some ⟨.nx, env.set j (some (.own ys))⟩
    | _ => none
  | _ => none
def setSlP (env : PEnv) (j : Nat) (lo hi : Int) (ys : List MV) : Option POut := match env[j]? with
  | some (some (.own xs)) => match setSlM [.lst xs, .lst ys] (.ref 0) (.ref 1) lo hi with
    | some [.lst zs, _] => some ⟨.nx, env.set j (some (.own zs))⟩
    | _ => none
  | _ => none
def augP (env : PEnv) (i : Nat) (o : BOp) (v w : MV) : Option POut := match augM o [] v w with
  | some (x, []) => some ⟨.nx, env.set i (some (.d x))⟩
  | _ => none
section
variable (g : Mod) (cf : Str → List PV → Option (PV × List (List MV))) (np : Nat)
def tstP (c : E) (env : PEnv) : Option (MV × PEnv) := (rdE c (pX g cf c env) env).bind fun x => (rdV x.2 x.1).bind fun u => (truth [] u).map fun b => (.bl b, x.2)
mutual
def pS (s : S) (env : PEnv) : Option POut := match s with
  | .asg t e => (pX g cf e env).bind fun x => match x.1 with
    | .d v => (bindP t v x.2).map fun e => ⟨.nx, e⟩
    | .own xs => match t with
      | .nm i => some ⟨.nx, x.2.set i (some (.own xs))⟩
      | _ => none
  | .setIx o ix e => match o with
    | .var j => (dOf (pX g cf e env)).bind fun x => (dOf (pX g cf ix x.2)).bind fun z => setP z.2 j z.1 x.1
    | _ => none
  | .setSl o lo hi e => match o with
    | .var j => (pX g cf e env).bind fun x => match x.1 with
      | .own ys => setSlP x.2 j lo hi ys
      | .d _ => none
    | _ => none
  | .aug i o e => match env[i]? with
    | some (some (.d v)) => (dOf (pX g cf e env)).bind fun x => augP x.2 i o v x.1
    | _ => none
  | .ex e => (pX g cf e env).map fun x => ⟨.nx, x.2⟩
  | .ret e => match e with
    | .var i => match env[i]? with
      | some (some (.d v)) => some ⟨.rt (.d v), env⟩
      | some (some (.own xs)) => if np ≤ i then some ⟨.rt (.own xs), env⟩ else none
      | _ => none
    | e => (pX g cf e env).map fun x => ⟨.rt x.1, x.2⟩
  | .retN => some ⟨.rt (.d .non), env⟩
  | .ite c a b => (tstP g cf c env).bind fun x => match x.1 with
    | .bl true => pSs a x.2
    | .bl false => pSs b x.2
    | _ => none
  | .for_ t k es body => match useV t k es env (sasL body) with
    | some (i, js) => forV np i (fun e => pSs body e) js env
    | none => (pRds g cf es env).bind fun r => (itsP k r.2 r.1).bind fun st => if srcOk (slotsT t ++ sasL body) st.2 = true then
      (forP t (fun e => pSs body e) st.1 (moveOut r.2 st.2)).map fun o => ⟨o.fl, moveIn o.env st.2⟩ else none
  | .while_ c body => whileP (fun e => tstP g cf c e) (fun e => pSs body e) WLIM env
  | .brk => some ⟨.bk, env⟩
  | .cont => some ⟨.ct, env⟩
  | .pass => some ⟨.nx, env⟩
def pSs (ss : List S) (env : PEnv) : Option POut := match ss with
  | [] => some ⟨.nx, env⟩
  | s :: ss => (pS s env).bind fun o => match o.fl with
    | .nx => pSs ss o.env
    | _ => some o
end
end
/-- changed parameters are not given anew -/
def okArgs (ns : List Nat) : Nat → List PV → Bool
  | _, [] => true
  | j, .d _ :: as => okArgs ns (j + 1) as
  | j, .own _ :: as => !ns.contains j && okArgs ns (j + 1) as
def outsP (env : PEnv) : Nat → List PV → Option (List (List MV))
  | _, [] => some []
  | j, .d _ :: as => outsP env (j + 1) as
  | j, .own _ :: as => match env[j]? with
    | some (some (.own xs)) => (outsP env (j + 1) as).map fun r => xs :: r
    | _ => none
/-- what is known of calls by hand, by fuel -/
abbrev Hand := Nat → Str → List PV → Option (PV × List (List MV))
def noHand : Hand := fun _ _ _ => none
/-- one def's run -/
def prunF (g : Mod) (cp : Str → List PV → Option (PV × List (List MV))) (i : FnI) (args : List PV) : Option (PV × List (List MV)) :=
  if args.length = i.np ∧ okArgs (sasL i.body) 0 args = true then (pSs g cp i.np i.body (args.map some ++ List.replicate (i.names.length - args.length) none)).bind fun o => match o.fl with
    | .nx => (outsP o.env 0 args).map fun os => (.d .non, os)
    | .rt w => (outsP o.env 0 args).map fun os => (if i.icy = true then iceP w else w, os)
    | _ => none
  else none
def prun (g : Mod) (hand : Hand) : Nat → Str → List PV → Option (PV × List (List MV))
  | 0, _, _ => none
  | k + 1, f, args => match hand (k + 1) f args with
    | some r => some r
    | none => match g.fns.lookup f with
      | none => none
      | some i => prunF g (prun g hand k) i args
end MP
namespace MP
open PySem
def RdEq (h : MH) (v u : MV) : Prop := (v = u ∧ u.data = true) ∨ ∃ p xs, v = .ref p ∧ u = .frl xs ∧ h[p]? = some (.lst xs) ∧ dataAll xs = true
def RdEqs (h : MH) : List MV → List MV → Prop
  | [], [] => True
  | v :: vs, u :: us => RdEq h v u ∧ RdEqs h vs us
  | _, _ => False
/-- a result at no heap, and at h -/
def ROk (h : MH) (r r' : MV × MH) : Prop := (∃ x, r = (x, []) ∧ x.data = true ∧ r' = (x, h)) ∨ ∃ xs, r = (.ref 0, [.lst xs]) ∧ dataAll xs = true ∧ r' = (.ref h.length, h ++ [.lst xs])
section
variable {h : MH} {v u v' w : MV} {vs us : List MV}
theorem RdEq.data (e : RdEq h v u) : u.data = true := by
  rcases e with ⟨_, e⟩ | ⟨p, xs, _, rfl, _, e⟩
  · exact e
  · simpa using e
theorem RdEq.of (e : u.data = true) : RdEq h u u := .inl ⟨rfl, e⟩
theorem RdEqs.data : ∀ {vs us : List MV}, RdEqs h vs us → dataAll us = true
  | [], [], _ => rfl
  | v :: vs, u :: us, e => by simp [e.1.data, RdEqs.data e.2]
  | [], _ :: _, e => e.elim
  | _ :: _, [], e => e.elim
theorem RdEqs.of : ∀ {us : List MV}, dataAll us = true → RdEqs h us us
  | [], _ => True.intro
  | u :: us, e => by
    simp only [dataAll_cons, Bool.and_eq_true] at e
    exact ⟨.of e.1, .of e.2⟩
theorem RdEqs.len : ∀ {vs us : List MV}, RdEqs h vs us → vs.length = us.length
  | [], [], _ => rfl
  | v :: vs, u :: us, e => by simp [RdEqs.len e.2]
  | [], _ :: _, e => e.elim
  | _ :: _, [], e => e.elim
theorem data_noref {p : Nat} : (MV.ref p).data = false := by simp [MV.data]
theorem RdEq.flat (e : RdEq h v u) (n : ∀ xs, u ≠ .frl xs) : v = u := by
  rcases e with ⟨e, _⟩ | ⟨p, xs, _, e, _⟩
  · exact e
  · exact absurd e (n xs)
theorem RdEq.seq (e : RdEq h v u) {xs : List MV} (q : seqM [] u = some xs) : seqM h v = some xs ∧ dataAll xs = true := by
  rcases e with ⟨rfl, d⟩ | ⟨p, ys, rfl, rfl, e, d⟩
  · cases v with
    | tup ys => cases q; exact ⟨rfl, by simpa using d⟩
    | frl ys => cases q; exact ⟨rfl, by simpa using d⟩
    | ref p => simp [MV.data] at d
    | _ => cases q
  · cases q
    exact ⟨by simp [seqM, e], d⟩
theorem RdEq.lst (e : RdEq h v u) {xs : List MV} (q : lstM [] u = some xs) : lstM h v = some xs ∧ dataAll xs = true := by
  rcases e with ⟨rfl, d⟩ | ⟨p, ys, rfl, rfl, e, d⟩
  · cases v with
    | frl ys => cases q; exact ⟨rfl, by simpa using d⟩
    | ref p => simp [MV.data] at d
    | _ => cases q
  · cases q
    exact ⟨by simp [lstM, e], d⟩
theorem RdEq.toD (e : RdEq h v u) {x : PyData} (q : toDH [] u = some x) : toDH h v = some x := by
  rcases e with ⟨rfl, d⟩ | ⟨p, ys, rfl, rfl, e, d⟩
  · cases v with
    | ref p => simp [MV.data] at d
    | _ => exact q
  · simp only [toDH, e]
    simpa [toDH, MP.toD] using q
theorem RdEq.tru (e : RdEq h v u) {c : Bool} (q : truth [] u = some c) : truth h v = some c := by
  rcases e with ⟨rfl, d⟩ | ⟨p, ys, rfl, rfl, e, d⟩
  · cases v with
    | ref p => simp [MV.data] at d
    | _ => exact q
  · simp only [truth, e]
    simpa [truth] using q
theorem RdEq.flatM (e : RdEq h v u) (q : MP.flatM u = true) : v = u := e.flat fun xs z => by rw [z] at q; cases q
theorem RdEq.inM (d : v.data = true) (e' : RdEq h v' w) {c : Bool} (q : MP.inM [] v w = some c) : MP.inM h v v' = some c := by
  unfold MP.inM at q ⊢
  simp only [Option.bind_eq_some_iff] at q
  obtain ⟨xs, q1, q2⟩ := q
  rw [(e'.seq q1).1]
  simp only [Option.bind_some]
  split at q2
  · rename_i hc
    rw [if_pos hc]
    exact q2
  · rename_i hc
    have ww : v' = w := by
      apply e'.flat
      intro ys z
      rw [z] at q2
      simp [inD] at q2
    subst ww
    rw [if_neg hc]; exact q2
theorem RdEq.eqM (e : RdEq h v u) (e' : RdEq h v' w) {c : Bool} (q : MP.eqM [] u w = some c) : MP.eqM h v v' = some c := by
  unfold MP.eqM at q ⊢
  simp only [Option.bind_eq_some_iff] at q
  obtain ⟨x, q1, y, q2, q3⟩ := q
  rw [e.toD q1, e'.toD q2]
  exact q3
theorem RdEq.int {i : Int} (e : RdEq h v (.int i)) : v = .int i := e.flat fun _ z => by cases z
theorem RdEq.cmp (d : v.data = true) (e' : RdEq h v' w) {o : COp} {c : Bool} (q : cmpM o [] v w = some c) : cmpM o h v v' = some c := by
  have fl : (∀ xs, w ≠ .frl xs) → v' = w := e'.flat
  cases o with
  | eq => exact (RdEq.of d).eqM e' q
  | ne =>
    simp only [cmpM, Option.map_eq_some_iff] at q ⊢
    obtain ⟨b, q1, q2⟩ := q
    exact ⟨b, (RdEq.of d).eqM e' q1, q2⟩
  | isin => exact RdEq.inM d e' q
  | notin =>
    simp only [cmpM, Option.map_eq_some_iff] at q ⊢
    obtain ⟨b, q1, q2⟩ := q
    exact ⟨b, RdEq.inM d e' q1, q2⟩
  | isN =>
    cases w <;> first | (cases q; done) | skip
    rw [fl fun _ z => by cases z]; exact q
  | notN =>
    cases w <;> first | (cases q; done) | skip
    rw [fl fun _ z => by cases z]; exact q
  | lt => cases v <;> first | (cases q; done) | skip
          cases w <;> first | (cases q; done) | skip
          rw [fl fun _ z => by cases z]; exact q
  | le => cases v <;> first | (cases q; done) | skip
          cases w <;> first | (cases q; done) | skip
          rw [fl fun _ z => by cases z]; exact q
  | gt => cases v <;> first | (cases q; done) | skip
          cases w <;> first | (cases q; done) | skip
          rw [fl fun _ z => by cases z]; exact q
  | ge => cases v <;> first | (cases q; done) | skip
          cases w <;> first | (cases q; done) | skip
          rw [fl fun _ z => by cases z]; exact q
theorem ROk.d {x : MV} (hd : x.data = true) : ROk h (x, []) (x, h) := .inl ⟨x, rfl, hd, rfl⟩
theorem ROk.l {xs : List MV} (hd : dataAll xs = true) : ROk h (.ref 0, [.lst xs]) (.ref h.length, h ++ [.lst xs]) := .inr ⟨xs, rfl, hd, rfl⟩
theorem dmem {xs : List MV} (d : dataAll xs = true) {x : MV} (hx : x ∈ xs) : x.data = true := dataAll_iff.mp d x hx
theorem dsub {xs ys : List MV} (d : dataAll xs = true) (s : ∀ y ∈ ys, y ∈ xs) : dataAll ys = true := dataAll_iff.mpr fun y hy => dmem d (s y hy)
theorem RdEq.bin (e : RdEq h v u) (e' : RdEq h v' w) {o : BOp} {r : MV × MH} (q : binM o [] u w = some r) : ∃ r', binM o h v v' = some r' ∧ ROk h r r' := by
  cases o with
  | add =>
    simp only [binM] at q
    split at q
    · rename_i i j
      cases q
      rw [e.int, e'.int]
      exact ⟨_, rfl, .d (by simp)⟩
    · rename_i i j
      split at q
      · rename_i hz
        cases q
        rw [e.flat (fun _ z => by cases z), e'.flat (fun _ z => by cases z)]
        exact ⟨_, by simp only [binM]; rw [if_pos hz], .d (by simp)⟩
      · cases q
    · rename_i i j
      split at q
      · rename_i hz
        cases q
        have d1 := e.data
        have d2 := e'.data
        rw [e.flat (fun _ z => by cases z), e'.flat (fun _ z => by cases z)]
        exact ⟨_, by simp only [binM]; rw [if_pos hz], .d (by simp at d1 d2; simp [d1, d2])⟩
      · cases q
    · rename_i n1 n2 n3
      simp only [Option.bind_eq_some_iff] at q
      obtain ⟨xs, q1, ys, q2, q3⟩ := q
      split at q3
      · rename_i hz
        cases q3
        obtain ⟨p1, d1⟩ := e.lst q1
        obtain ⟨p2, d2⟩ := e'.lst q2
        refine ⟨(.ref h.length, h ++ [.lst (xs ++ ys)]), ?_, .l (by simp [d1, d2])⟩
        cases v <;> first | (cases p1; done) | skip
        all_goals (cases v' <;> first | (cases p2; done) | skip)
        all_goals
          simp only [binM, p1, p2, Option.bind_some]
          rw [if_pos hz]
      · cases q3
  | sub =>
    simp only [binM] at q
    split at q
    · cases q
      rw [e.int, e'.int]
      exact ⟨_, rfl, .d (by simp)⟩
    · cases q
  | mul =>
    simp only [binM] at q
    split at q
    · split at q
      · rename_i hz
        cases q
        rw [e.int, e'.int]
        exact ⟨_, by simp only [binM]; rw [if_pos hz], .d (by simp)⟩
      · cases q
    · cases q
  | mod =>
    simp only [binM] at q
    split at q
    · split at q
      · rename_i hz
        cases q
        rw [e.int, e'.int]
        exact ⟨_, by simp only [binM]; rw [if_pos hz], .d (by simp)⟩
      · cases q
    · cases q
  | fdiv =>
    simp only [binM] at q
    split at q
    · split at q
      · rename_i hz
        cases q
        rw [e.int, e'.int]
        exact ⟨_, by simp only [binM]; rw [if_pos hz], .d (by simp)⟩
      · cases q
    · cases q
  | pow =>
    simp only [binM] at q
    split at q
    · split at q
      · rename_i hz
        cases q
        rw [e.int, e'.int]
        exact ⟨_, by simp only [binM]; rw [if_pos hz], .d (by simp)⟩
      · cases q
    · cases q
theorem atI_mem {xs : List MV} {i : Int} {x : MV} (q : L2.atI xs i = some x) : x ∈ xs := by
  unfold L2.atI at q
  simp only [Option.bind_eq_some_iff] at q
  obtain ⟨j, _, q⟩ := q
  exact List.mem_of_getElem? q
theorem RdEq.at_ (e : RdEq h v u) (e' : RdEq h v' w) {x : MV} (q : atM [] u w = some x) : atM h v v' = some x ∧ x.data = true := by
  unfold atM at q
  split at q
  · rename_i j
    rw [e'.int]
    split at q
    · rename_i z
      rw [e.flat (fun _ z => by cases z)]
      refine ⟨q, ?_⟩
      simp only [Option.map_eq_some_iff] at q
      obtain ⟨c, _, rfl⟩ := q
      simp
    · rename_i a hn
      simp only [Option.bind_eq_some_iff] at q
      obtain ⟨xs, q1, q2⟩ := q
      obtain ⟨p1, d1⟩ := e.seq q1
      refine ⟨?_, dmem d1 (atI_mem q2)⟩
      have ns : ∀ z, v ≠ .str z := fun z hz => by rw [hz] at p1; cases p1
      cases v <;> first | (exact absurd rfl (ns _)) | (unfold atM; simp only; rw [p1]; exact q2)
  · cases q
theorem cutM_mem {xs : List MV} {l u : Option Int} {x : MV} (q : x ∈ cutM xs l u) : x ∈ xs := List.mem_of_mem_drop (List.mem_of_mem_take q)
theorem RdEq.slice (e : RdEq h v u) {l r : Option Int} {z : MV × MH} (q : sliceM [] u l r = some z) : ∃ z', sliceM h v l r = some z' ∧ ROk h z z' := by
  have dd := e.data
  rcases e with ⟨rfl, d⟩ | ⟨p, ys, rfl, rfl, e, d⟩
  · cases v with
    | tup xs =>
      cases q
      exact ⟨_, rfl, .d (by simp at d; rw [data_tup]; exact dsub d fun y hy => cutM_mem hy)⟩
    | frl xs =>
      cases q
      exact ⟨_, rfl, .l (by simp at d; exact dsub d fun y hy => cutM_mem hy)⟩
    | ref p => simp [MV.data] at d
    | _ => cases q
  · cases q
    exact ⟨_, by simp only [sliceM, e], .l (dsub d fun y hy => cutM_mem hy)⟩
theorem RdEq.isi (e : RdEq h v u) {t : TyN} {c : Bool} (q : isiM [] u t = some c) : isiM h v t = some c := by
  rcases e with ⟨rfl, d⟩ | ⟨p, ys, rfl, rfl, e, d⟩
  · cases v with
    | ref p => simp [MV.data] at d
    | _ => cases t <;> exact q
  · cases t <;> simp [isiM, e] at q ⊢ <;> exact q
theorem intsM_data : ∀ {xs : List MV} {ns : List Int}, intsM xs = some ns → xs = ns.map .int
  | [], ns, q => by cases q; rfl
  | x :: xs, ns, q => by
    cases x <;> first | (cases q; done) | skip
    simp only [intsM, Option.map_eq_some_iff] at q
    obtain ⟨ms, q1, rfl⟩ := q
    rw [intsM_data q1]; rfl
mutual
theorem ofD_data : ∀ d : PyData, (ofD d).data = true
  | .tuple xs => by simp [ofD, ofDs_data xs]
  | .list xs => by simp [ofD, ofDs_data xs]
  | .bool b => by simp [ofD]
  | .int b => by simp [ofD]
  | .str b => by simp [ofD]
  | .none => by simp [ofD]
  | .dict _ => by simp [ofD]
theorem ofDs_data : ∀ d : List PyData, dataAll (ofDs d) = true
  | [] => by simp [ofDs]
  | x :: xs => by simp [ofDs, ofD_data x, ofDs_data xs]
end
theorem RdEqs.one {vs : List MV} {u : MV} (e : RdEqs h vs [u]) : ∃ v, vs = [v] ∧ RdEq h v u := by
  match vs, e with
  | [v], e => exact ⟨v, rfl, e.1⟩
theorem RdEqs.two {vs : List MV} {u w : MV} (e : RdEqs h vs [u, w]) : ∃ v v', vs = [v, v'] ∧ RdEq h v u ∧ RdEq h v' w := by
  match vs, e with
  | [v, v'], e => exact ⟨v, v', rfl, e.1, e.2.1⟩
theorem minDM_h {xs : List MV} {r : MV × MH} (q : minDM [] xs = some r) : ∃ x, r = (x, []) ∧ x.data = true ∧ minDM h xs = some (x, h) := by
  unfold minDM at q ⊢
  simp only [Option.bind_eq_some_iff] at q
  obtain ⟨ds, q1, q2⟩ := q
  rw [q1]
  simp only [Option.bind_some]
  split at q2
  · cases q2
  · split at q2
    · rename_i hc
      cases q2
      exact ⟨_, rfl, ofD_data _, by rw [if_pos hc]⟩
    · cases q2
theorem bi_rel {f : Bi} (e : RdEqs h vs us) {r : MV × MH} (q : biM f [] us = some r) : ∃ r', biM f h vs = some r' ∧ ROk h r r' := by
  cases f with
  | len =>
    change lenM [] us = some r at q
    show ∃ r', lenM h vs = some r' ∧ _
    unfold lenM at q
    split at q
    · rename_i x
      cases q
      obtain ⟨v, rfl, f1⟩ := e.one
      rw [f1.flat (fun _ z => by cases z)]
      exact ⟨_, rfl, .d (by simp)⟩
    · rename_i x hn
      obtain ⟨v, rfl, f1⟩ := e.one
      simp only [Option.map_eq_some_iff] at q
      obtain ⟨xs, q1, rfl⟩ := q
      obtain ⟨p1, _⟩ := f1.seq q1
      refine ⟨(.int xs.length, h), ?_, .d (by simp)⟩
      cases v <;> first | (cases p1; done) | skip
      all_goals (unfold lenM; simp only [p1, Option.map_some])
    · cases q
  | int =>
    change intM [] us = some r at q
    show ∃ r', intM h vs = some r' ∧ _
    unfold intM at q
    split at q
    · cases q
      obtain ⟨v, rfl, f1⟩ := e.one
      rw [f1.flat (fun _ z => by cases z)]
      exact ⟨_, rfl, .d (by simp)⟩
    · cases q
      obtain ⟨v, rfl, f1⟩ := e.one
      rw [f1.flat (fun _ z => by cases z)]
      exact ⟨_, rfl, .d (by simp)⟩
    · cases q
  | abs =>
    change absM [] us = some r at q
    show ∃ r', absM h vs = some r' ∧ _
    unfold absM at q
    split at q
    · cases q
      obtain ⟨v, rfl, f1⟩ := e.one
      rw [f1.flat (fun _ z => by cases z)]
      exact ⟨_, rfl, .d (by simp)⟩
    · cases q
  | max =>
    change maxM [] us = some r at q
    show ∃ r', maxM h vs = some r' ∧ _
    unfold maxM at q
    split at q
    · cases q
      obtain ⟨v, v', rfl, f1, f2⟩ := e.two
      rw [f1.int, f2.int]
      exact ⟨_, rfl, .d (by simp)⟩
    · obtain ⟨v, rfl, f1⟩ := e.one
      simp only [Option.bind_eq_some_iff] at q
      obtain ⟨xs, q1, ns, q2, q3⟩ := q
      split at q3
      · cases q3
      · rename_i hz
        cases q3
        obtain ⟨p1, _⟩ := f1.lst q1
        refine ⟨_, ?_, .d (by simp)⟩
        unfold maxM
        simp only [p1, q2, Option.bind_some]
        rw [if_neg hz]
    · cases q
  | min =>
    change minM [] us = some r at q
    show ∃ r', minM h vs = some r' ∧ _
    unfold minM at q
    split at q
    · cases q
      obtain ⟨v, v', rfl, f1, f2⟩ := e.two
      rw [f1.int, f2.int]
      exact ⟨_, rfl, .d (by simp)⟩
    · obtain ⟨v, rfl, f1⟩ := e.one
      simp only [Option.bind_eq_some_iff] at q
      obtain ⟨xs, q1, q3⟩ := q
      obtain ⟨p1, _⟩ := f1.lst q1
      split at q3
      · rename_i ns q2
        split at q3
        · cases q3
        · rename_i hz
          cases q3
          refine ⟨_, ?_, .d (by simp)⟩
          unfold minM
          simp only [p1, q2, Option.bind_some]
          rw [if_neg hz]
      · rename_i q2
        obtain ⟨x, rfl, dx, q4⟩ := minDM_h (h := h) q3
        refine ⟨(x, h), ?_, .d dx⟩
        unfold minM
        simp only [p1, q2, Option.bind_some]
        exact q4
    · cases q
  | sum =>
    change sumM [] us = some r at q
    show ∃ r', sumM h vs = some r' ∧ _
    unfold sumM at q
    split at q
    · obtain ⟨v, rfl, f1⟩ := e.one
      simp only [Option.bind_eq_some_iff, Option.map_eq_some_iff] at q
      obtain ⟨xs, q1, ns, q2, rfl⟩ := q
      obtain ⟨p1, _⟩ := f1.lst q1
      refine ⟨(.int ns.sum, h), ?_, .d (by simp)⟩
      unfold sumM
      simp only [p1, q2, Option.bind_some, Option.map_some]
    · cases q
  | all =>
    change allM [] us = some r at q
    show ∃ r', allM h vs = some r' ∧ _
    unfold allM at q
    split at q
    · obtain ⟨v, rfl, f1⟩ := e.one
      simp only [Option.bind_eq_some_iff, Option.map_eq_some_iff] at q
      obtain ⟨xs, q1, ns, q2, rfl⟩ := q
      obtain ⟨p1, _⟩ := f1.lst q1
      refine ⟨(.bl (ns.all id), h), ?_, .d (by simp)⟩
      unfold allM
      simp only [p1, q2, Option.bind_some, Option.map_some]
    · cases q
  | any =>
    change anyM [] us = some r at q
    show ∃ r', anyM h vs = some r' ∧ _
    unfold anyM at q
    split at q
    · obtain ⟨v, rfl, f1⟩ := e.one
      simp only [Option.bind_eq_some_iff, Option.map_eq_some_iff] at q
      obtain ⟨xs, q1, ns, q2, rfl⟩ := q
      obtain ⟨p1, _⟩ := f1.lst q1
      refine ⟨(.bl (ns.any id), h), ?_, .d (by simp)⟩
      unfold anyM
      simp only [p1, q2, Option.bind_some, Option.map_some]
    · cases q
  | list =>
    change listM [] us = some r at q
    show ∃ r', listM h vs = some r' ∧ _
    unfold listM at q
    split at q
    · obtain ⟨v, rfl, f1⟩ := e.one
      simp only [Option.map_eq_some_iff] at q
      obtain ⟨xs, q1, rfl⟩ := q
      obtain ⟨p1, d1⟩ := f1.seq q1
      refine ⟨(.ref h.length, h ++ [.lst xs]), ?_, .l d1⟩
      unfold listM
      simp only [p1, Option.map_some]
    · cases q
  | tuple =>
    change tupleM [] us = some r at q
    show ∃ r', tupleM h vs = some r' ∧ _
    unfold tupleM at q
    split at q
    · obtain ⟨v, rfl, f1⟩ := e.one
      simp only [Option.map_eq_some_iff] at q
      obtain ⟨xs, q1, rfl⟩ := q
      obtain ⟨p1, d1⟩ := f1.seq q1
      refine ⟨(.tup xs, h), ?_, .d (by simpa using d1)⟩
      unfold tupleM
      simp only [p1, Option.map_some]
    · cases q
theorem neg_rel {r : MV × MH} (q : negM (u, []) = some r) : ∃ x, r = (x, []) ∧ x.data = true ∧ negM (u, h) = some (x, h) := by
  unfold negM at q ⊢
  cases u <;> first | (cases q; done) | skip
  cases q
  exact ⟨_, rfl, by simp, rfl⟩
theorem back_rel {r : MV × MH} (d : u.data = true) (q : backM (u, []) = some r) : ∃ x, r = (x, []) ∧ x.data = true ∧ backM (u, h) = some (x, h) := by
  unfold backM at q ⊢
  cases u <;> first | (cases q; done) | skip
  rename_i xs
  cases q
  refine ⟨_, rfl, ?_, rfl⟩
  rw [data_tup] at d ⊢
  exact dsub d fun y hy => by simpa using hy
theorem ls_rel (e : RdEq h v u) {r : MV × MH} (q : lsM (u, []) = some r) : ∃ x, r = (x, []) ∧ x.data = true ∧ lsM (v, h) = some (x, h) := by
  unfold lsM at q ⊢
  simp only [Option.bind_eq_some_iff] at q
  obtain ⟨xs, q1, ns, q2, q3⟩ := q
  obtain ⟨p1, _⟩ := e.lst q1
  split at q3
  · rename_i hc
    cases q3
    refine ⟨_, rfl, by simp, ?_⟩
    simp only [p1, q2, Option.bind_some]
    rw [if_pos hc]
  · cases q3
theorem gf_rel {i : Nat} {t : Int} {env : Env} {r : MV × MH} (d : u.data = true) (he : env[i]? = some (some (.int t))) (q : gfM 0 [some (.int t)] (u, []) = some r) : ∃ x, r = (x, []) ∧ x.data = true ∧ gfM i env (u, h) = some (x, h) := by
  unfold gfM at q ⊢
  simp only [List.getElem?_cons_zero, he] at q ⊢
  cases u <;> first | (cases q; done) | skip
  rename_i xs
  simp only at q ⊢
  split at q
  · rename_i hc
    cases q
    refine ⟨_, rfl, ?_, by rw [if_pos hc]⟩
    rw [data_tup] at d ⊢
    exact dsub d fun y hy => (List.mem_filter.mp hy).1
  · cases q
theorem meth_rel {m : Me} {xs ys : List MV} {p : Nat} {x : MV} (hp : h[p]? = some (.lst xs)) (d : dataAll xs = true) (dv : dataAll vs = true) (q : methM m [.lst xs] (.ref 0) vs = some (x, [.lst ys])) : methM m h (.ref p) vs = some (x, h.set p (.lst ys)) ∧ x.data = true ∧ dataAll ys = true := by
  cases m with
  | append =>
    change appendM [.lst xs] 0 vs = _ at q
    show appendM h p vs = _ ∧ _
    unfold appendM at q ⊢
    split at q
    · rename_i v
      simp only [List.getElem?_cons_zero] at q
      split at q
      · rename_i hl
        cases q
        simp only [hp]
        rw [if_pos hl]
        simp at dv
        exact ⟨by trivial, by simp, by simp [d, dv]⟩
      · cases q
    · cases q
  | pop =>
    change popM [.lst xs] 0 vs = _ at q
    show popM h p vs = _ ∧ _
    unfold popM at q ⊢
    split at q
    · rename_i i
      simp only [List.getElem?_cons_zero] at q
      split at q
      · rename_i hl
        simp only [Option.bind_eq_some_iff, Option.map_eq_some_iff] at q
        obtain ⟨k, q1, y, q2, q3⟩ := q
        cases q3
        simp only [hp]
        rw [if_pos hl, q1]
        simp only [Option.bind_some, q2, Option.map_some]
        exact ⟨by trivial, dmem d (List.mem_of_getElem? q2), dsub d fun y hy => List.mem_of_mem_eraseIdx hy⟩
      · cases q
    · simp only [List.getElem?_cons_zero, Option.map_eq_some_iff] at q
      obtain ⟨y, q2, q3⟩ := q
      cases q3
      simp only [hp, q2, Option.map_some]
      exact ⟨by trivial, dmem d (List.mem_of_getElem? q2), dsub d fun y hy => (List.dropLast_sublist _).subset hy⟩
    · cases q
theorem set_rel {xs ys : List MV} {p : Nat} {i x : MV} (hp : h[p]? = some (.lst xs)) (d : dataAll xs = true) (dx : x.data = true) (q : setM [.lst xs] (.ref 0) i x = some [.lst ys]) : setM h (.ref p) i x = some (h.set p (.lst ys)) ∧ dataAll ys = true := by
  unfold setM at q ⊢
  cases i <;> first | (cases q; done) | skip
  simp only [List.getElem?_cons_zero, Option.map_eq_some_iff] at q
  obtain ⟨k, q1, q2⟩ := q
  cases q2
  simp only [hp, q1, Option.map_some]
  refine ⟨by trivial, dataAll_iff.mpr fun y hy => ?_⟩
  rcases List.mem_or_eq_of_mem_set hy with w | w
  · exact dmem d w
  · rw [w]; exact dx
theorem setSl_rel {xs ys zs : List MV} {o : MO} {p q : Nat} {lo hi : Int} (hp : h[p]? = some (.lst xs)) (hq : h[q]? = some (.lst ys)) (hpq : p ≠ q) (d : dataAll xs = true) (dy : dataAll ys = true) (e : setSlM [.lst xs, .lst ys] (.ref 0) (.ref 1) lo hi = some [.lst zs, o]) : setSlM h (.ref p) (.ref q) lo hi = some (h.set p (.lst zs)) ∧ dataAll zs = true := by
  unfold setSlM at e ⊢
  simp only [List.getElem?_cons_zero, List.getElem?_cons_succ] at e
  split at e
  · rename_i hc
    cases e
    simp only [hp, hq]
    rw [if_pos ⟨hpq, hc.2⟩]
    refine ⟨rfl, ?_⟩
    simp only [dataAll_append, Bool.and_eq_true]
    exact ⟨⟨dsub d fun y hy => List.mem_of_mem_take hy, dy⟩, dsub d fun y hy => List.mem_of_mem_drop hy⟩
  · cases e
theorem aug_rel {o : BOp} {x : MV} (d : v.data = true) (dw : w.data = true) (q : augM o [] v w = some (x, [])) : augM o h v w = some (x, h) ∧ x.data = true := by
  unfold augM at q ⊢
  split at q
  · cases q; exact ⟨rfl, by simp⟩
  · cases q; exact ⟨rfl, by simp⟩
  · split at q
    · rename_i hl
      cases q
      exact ⟨by rw [if_pos hl], by simp⟩
    · cases q
  · cases q
theorem its_rel {k : IK} {st : Its} (hk : k ≠ .ex) (d : dataAll vs = true) (q : itsM k [] vs = some st) : itsM k h vs = some st ∧ st.src = none ∧ dataAll st.items = true := by
  cases k with
  | ex => exact absurd rfl hk
  | rng1 =>
    simp only [itsM] at q ⊢
    split at q
    · split at q
      · rename_i hc
        cases q
        refine ⟨by rw [if_pos hc], rfl, dataAll_iff.mpr fun x hx => ?_⟩
        obtain ⟨i, _, rfl⟩ := List.mem_map.mp hx
        simp
      · cases q
    · cases q
  | rng2 =>
    simp only [itsM] at q ⊢
    split at q
    · split at q
      · rename_i hc
        cases q
        refine ⟨by rw [if_pos hc], rfl, dataAll_iff.mpr fun x hx => ?_⟩
        obtain ⟨i, _, rfl⟩ := List.mem_map.mp hx
        simp
      · cases q
    · cases q
  | enum =>
    have key : ∀ xs, dataAll xs = true → dataAll (enumI xs) = true := fun xs dx => dataAll_iff.mpr fun x hx => by
      obtain ⟨i, hi, rfl⟩ := List.mem_map.mp hx
      have hi : i < xs.length := by simpa using hi
      simp [hi, dmem dx (List.getElem_mem hi)]
    simp only [itsM] at q ⊢
    split at q
    · cases q
      exact ⟨rfl, rfl, key _ (by simpa using d)⟩
    · cases q
      exact ⟨rfl, rfl, key _ (by simpa using d)⟩
    · cases q
end
end MP
namespace MP
open PySem
structure Rel (np base : Nat) (pe : PEnv) (env : Env) (h : MH) : Prop where
  hb : base ≤ h.length
  len : pe.length = env.length
  d : ∀ (i : Nat) (v : MV), pe[i]? = some (some (.d v)) → env[i]? = some (some v) ∧ v.data = true
  o : ∀ (i : Nat) (xs : List MV), pe[i]? = some (some (.own xs)) → ∃ p : Nat, env[i]? = some (some (.ref p)) ∧ h[p]? = some (.lst xs) ∧ dataAll xs = true ∧ (np ≤ i → base ≤ p)
  inj : ∀ (i j : Nat) (xs ys : List MV) (p : Nat), pe[i]? = some (some (.own xs)) → pe[j]? = some (some (.own ys)) → env[i]? = some (some (.ref p)) → env[j]? = some (some (.ref p)) → i = j
def Own (pe : PEnv) (env : Env) (p : Nat) : Prop := ∃ (i : Nat) (xs : List MV), pe[i]? = some (some (.own xs)) ∧ env[i]? = some (some (.ref p))
structure Tr (pe : PEnv) (env : Env) (h : MH) (pe' : PEnv) (env' : Env) (h' : MH) : Prop where
  len : h.length ≤ h'.length
  fr : ∀ q : Nat, q < h.length → ¬ Own pe env q → h'[q]? = h[q]?
  dt : ∀ (q : Nat) (o : MO), q < h.length → h'[q]? = some o → h[q]? = some o ∨ ∃ xs, o = .lst xs ∧ dataAll xs = true
  ow : ∀ p, Own pe' env' p → p < h.length → Own pe env p
section
variable {np base : Nat} {pe pe' pe1 pe2 : PEnv} {env env' env1 env2 : Env} {h h' h1 h2 : MH} {v u : MV} {xs ys : List MV}
theorem Tr.refl : Tr pe env h pe env h := ⟨Nat.le_refl _, fun _ _ _ => rfl, fun _ _ _ e => .inl e, fun _ e _ => e⟩
theorem Tr.trans (a : Tr pe env h pe1 env1 h1) (b : Tr pe1 env1 h1 pe2 env2 h2) : Tr pe env h pe2 env2 h2 where
  len := Nat.le_trans a.len b.len
  fr := fun q hq n => by
    rw [b.fr q (Nat.lt_of_lt_of_le hq a.len) fun z => n (a.ow q z hq), a.fr q hq n]
  dt := fun q o hq e => by
    rcases b.dt q o (Nat.lt_of_lt_of_le hq a.len) e with w | w
    · exact a.dt q o hq w
    · exact .inr w
  ow := fun p e hp => a.ow p (b.ow p e (Nat.lt_of_lt_of_le hp a.len)) hp
theorem Rel.lt (r : Rel np base pe env h) {p : Nat} (q : Own pe env p) : p < h.length := by
  obtain ⟨i, xs, e1, e2⟩ := q
  obtain ⟨p', f1, f2, _⟩ := r.o i xs e1
  rw [e2] at f1; cases f1
  exact (List.getElem?_eq_some_iff.mp f2).1
/-- a slot's list is changed -/
theorem Rel.setOwn (r : Rel np base pe env h) {j p : Nat} (e1 : pe[j]? = some (some (.own xs))) (e2 : env[j]? = some (some (.ref p))) (d : dataAll ys = true) : Rel np base (pe.set j (some (.own ys))) env (h.set p (.lst ys)) ∧ Tr pe env h (pe.set j (some (.own ys))) env (h.set p (.lst ys)) := by
  have hj : j < pe.length := (List.getElem?_eq_some_iff.mp e1).1
  obtain ⟨p', f1, f2, f3, f4⟩ := r.o j xs e1
  rw [e2] at f1; cases f1
  have hp : p < h.length := (List.getElem?_eq_some_iff.mp f2).1
  have get : ∀ {i : Nat} {w : PV}, (pe.set j (some (.own ys)))[i]? = some (some w) → (i = j ∧ w = .own ys) ∨ (i ≠ j ∧ pe[i]? = some (some w)) := fun {i w} q => by
    by_cases hi : j = i
    · subst hi
      rw [List.getElem?_set_self hj] at q
      cases q
      exact .inl ⟨rfl, rfl⟩
    · rw [List.getElem?_set_ne hi] at q
      exact .inr ⟨fun z => hi z.symm, q⟩
  have old : ∀ {i : Nat} {w : List MV}, (pe.set j (some (.own ys)))[i]? = some (some (.own w)) → ∃ w', pe[i]? = some (some (.own w')) := fun {i w} q => by
    rcases get q with ⟨rfl, _⟩ | ⟨_, q⟩
    · exact ⟨xs, e1⟩
    · exact ⟨w, q⟩
  refine ⟨⟨by simpa using r.hb, by simpa using r.len, fun i v q => ?_, fun i zs q => ?_, fun i k zs ws q a1 a2 a3 a4 => ?_⟩, ⟨by simp, fun q hq n => ?_, fun q o hq e => ?_, fun q e _ => ?_⟩⟩
  · rcases get q with ⟨_, z⟩ | ⟨_, q⟩
    · cases z
    · exact r.d i v q
  · rcases get q with ⟨rfl, z⟩ | ⟨hi, q⟩
    · cases z
      exact ⟨p, e2, List.getElem?_set_self hp, d, f4⟩
    · obtain ⟨q', g1, g2, g3, g4⟩ := r.o i zs q
      refine ⟨q', g1, ?_, g3, g4⟩
      rw [List.getElem?_set_ne (fun z => hi (r.inj i j zs xs q' q e1 g1 (by rw [← z]; exact e2)))]
      exact g2
  · obtain ⟨_, b1⟩ := old a1
    obtain ⟨_, b2⟩ := old a2
    exact r.inj i k _ _ q b1 b2 a3 a4
  · rw [List.getElem?_set_ne (fun z => n (by rw [← z]; exact ⟨j, xs, e1, e2⟩))]
  · by_cases hq2 : p = q
    · subst hq2
      rw [List.getElem?_set_self hp] at e
      cases e
      exact .inr ⟨ys, rfl, d⟩
    · rw [List.getElem?_set_ne hq2] at e
      exact .inl e
  · obtain ⟨i, zs, a1, a2⟩ := e
    obtain ⟨w, b1⟩ := old a1
    exact ⟨i, w, b1, a2⟩
/-- a slot is left out -/
theorem get_out {i j : Nat} {w : PV} (q : (pe.set j none)[i]? = some (some w)) : i ≠ j ∧ pe[i]? = some (some w) := by
  by_cases hi : j = i
  · subst hi
    rw [List.getElem?_set] at q
    split at q
    · split at q <;> cases q
    · rename_i z; exact absurd rfl z
  · rw [List.getElem?_set_ne hi] at q
    exact ⟨fun z => hi z.symm, q⟩
theorem Rel.out (r : Rel np base pe env h) (j : Nat) : Rel np base (pe.set j none) env h :=
  ⟨r.hb, by simpa using r.len, fun i v q => r.d i v (get_out q).2, fun i zs q => r.o i zs (get_out q).2, fun i k zs ws q a1 a2 => r.inj i k zs ws q (get_out a1).2 (get_out a2).2⟩
theorem Own.out {j p : Nat} (e : Own (pe.set j none) env p) : Own pe env p := let ⟨i, xs, a, b⟩ := e; ⟨i, xs, (get_out a).2, b⟩
theorem Rel.notOwn (r : Rel np base pe env h) {j p : Nat} (e1 : pe[j]? = some (some (.own xs))) (e2 : env[j]? = some (some (.ref p))) : ¬ Own (pe.set j none) env p := fun ⟨i, zs, a, b⟩ => (get_out a).1 (r.inj i j zs xs p (get_out a).2 e1 b e2)
theorem get_set {i j : Nat} {w w' : PV} (q : (pe.set j (some w'))[i]? = some (some w)) : (i = j ∧ w = w' ∧ j < pe.length) ∨ (i ≠ j ∧ pe[i]? = some (some w)) := by
  by_cases hi : j = i
  · subst hi
    rw [List.getElem?_set] at q
    split at q
    · split at q
      · rename_i hl
        cases q
        exact .inl ⟨rfl, rfl, hl⟩
      · cases q
    · rename_i z; exact absurd rfl z
  · rw [List.getElem?_set_ne hi] at q
    exact .inr ⟨fun z => hi z.symm, q⟩
/-- and comes back -/
theorem Rel.inn (r : Rel np base pe env h) {j p : Nat} (e2 : env[j]? = some (some (.ref p))) (hp : h[p]? = some (.lst xs)) (d : dataAll xs = true) (hb : np ≤ j → base ≤ p) (n : ¬ Own (pe.set j none) env p) : Rel np base (pe.set j (some (.own xs))) env h := by
  refine ⟨r.hb, by simpa using r.len, fun i v q => ?_, fun i zs q => ?_, fun i k zs ws q a1 a2 a3 a4 => ?_⟩
  · rcases get_set q with ⟨_, z, _⟩ | ⟨_, q⟩
    · cases z
    · exact r.d i v q
  · rcases get_set q with ⟨rfl, z, _⟩ | ⟨_, q⟩
    · cases z
      exact ⟨p, e2, hp, d, hb⟩
    · exact r.o i zs q
  · have key : ∀ {i k : Nat} {zs ws : List MV}, i = j → k ≠ j → pe[k]? = some (some (.own ws)) → env[i]? = some (some (.ref q)) → env[k]? = some (some (.ref q)) → False := fun {i k zs ws} hi hk b2 b3 b4 => by
      subst hi
      rw [e2] at b3; cases b3
      exact n ⟨k, ws, by rw [List.getElem?_set_ne (Ne.symm hk)]; exact b2, b4⟩
    rcases get_set a1 with ⟨hi, z, _⟩ | ⟨hi, b1⟩
    · rcases get_set a2 with ⟨hk, _, _⟩ | ⟨hk, b2⟩
      · rw [hi, hk]
      · exact (key (zs := zs) hi hk b2 a3 a4).elim
    · rcases get_set a2 with ⟨hk, _, _⟩ | ⟨hk, b2⟩
      · exact (key (zs := ws) hk hi b1 a4 a3).elim
      · exact r.inj i k zs ws q b1 b2 a3 a4
theorem Own.inn {j p q : Nat} (e2 : env[j]? = some (some (.ref p))) (e : Own (pe.set j (some (.own xs))) env q) : q = p ∨ Own pe env q := by
  obtain ⟨i, zs, a, b⟩ := e
  rcases get_set a with ⟨rfl, _, _⟩ | ⟨_, a⟩
  · rw [e2] at b; cases b; exact .inl rfl
  · exact .inr ⟨i, zs, a, b⟩
def RdR (env : Env) : Rd → MV → Prop
  | .val u, v => v = u ∧ u.data = true
  | .slot i, v => env[i]? = some (some v)
def RdRs (env : Env) : List Rd → List MV → Prop
  | [], [] => True
  | r :: rs, v :: vs => RdR env r v ∧ RdRs env rs vs
  | _, _ => False
theorem rd_ok (r : Rel np base pe env h) {x : Rd} (e : RdR env x v) (q : rdV pe x = some u) : RdEq h v u := by
  cases x with
  | val w => cases q; obtain ⟨rfl, d⟩ := e; exact .of d
  | slot i =>
    simp only [rdV] at q
    split at q
    · rename_i w hw
      cases q
      obtain ⟨a, b⟩ := r.d i u hw
      rw [show env[i]? = some (some v) from e] at a; cases a
      exact .of b
    · rename_i w hw
      cases q
      obtain ⟨p, a, b, c, _⟩ := r.o i w hw
      rw [show env[i]? = some (some v) from e] at a; cases a
      exact .inr ⟨p, w, rfl, rfl, b, c⟩
    · cases q
theorem dV_ok (r : Rel np base pe env h) {x : Rd} (e : RdR env x v) (q : dV pe x = some u) : v = u ∧ u.data = true := by
  cases x with
  | val w => cases q; exact e
  | slot i =>
    simp only [dV] at q
    split at q
    · rename_i w hw
      cases q
      obtain ⟨a, b⟩ := r.d i u hw
      rw [show env[i]? = some (some v) from e] at a; cases a
      exact ⟨rfl, b⟩
    · cases q
theorem rds_ok (r : Rel np base pe env h) : ∀ {x : List Rd} {vs us : List MV}, RdRs env x vs → rdVs pe x = some us → RdEqs h vs us
  | [], [], us, _, q => by cases q; exact True.intro
  | x :: xs, v :: vs, us, e, q => by
    simp only [rdVs, Option.bind_eq_some_iff, Option.map_eq_some_iff] at q
    obtain ⟨u, q1, us', q2, rfl⟩ := q
    exact ⟨rd_ok r e.1 q1, rds_ok r e.2 q2⟩
  | [], _ :: _, _, e, _ => e.elim
  | _ :: _, [], _, e, _ => e.elim
theorem dVs_ok (r : Rel np base pe env h) : ∀ {x : List Rd} {vs us : List MV}, RdRs env x vs → dVs pe x = some us → vs = us ∧ dataAll us = true
  | [], [], us, _, q => by cases q; exact ⟨rfl, rfl⟩
  | x :: xs, v :: vs, us, e, q => by
    simp only [dVs, Option.bind_eq_some_iff, Option.map_eq_some_iff] at q
    obtain ⟨u, q1, us', q2, rfl⟩ := q
    obtain ⟨rfl, d1⟩ := dV_ok r e.1 q1
    obtain ⟨rfl, d2⟩ := dVs_ok r e.2 q2
    exact ⟨rfl, by simp [d1, d2]⟩
  | [], _ :: _, _, e, _ => e.elim
  | _ :: _, [], _, e, _ => e.elim
theorem Tr.gc (t : Tr pe env h pe' env' h') (hl : h'.length = h.length) (d : v.data = true) : MP.gc h (v, h') = (v, h') := by
  have := gc_upd (h := h) (h' := h') (j := []) (v := v) hl (fun i o hi q => by
    rcases t.dt i o hi q with w | ⟨xs, rfl, dx⟩
    · exact .inl w
    · exact .inr (lt_dataAll dx)) (lt_data d)
  simpa using this
theorem Tr.gcL (t : Tr pe env h pe' env' h') (hl : h'.length = h.length) (d : dataAll xs = true) : MP.gc h (.ref h.length, h' ++ [.lst xs]) = (.ref h.length, h' ++ [.lst xs]) := by
  have := gc_lst (h := h) (h' := h') (j := [.lst xs]) (i := 0) (o := .lst xs) hl (fun i o hi q => by
    rcases t.dt i o hi q with w | ⟨xs, rfl, dx⟩
    · exact .inl w
    · exact .inr (lt_dataAll dx)) rfl (lt_dataAll d)
  simpa using this
theorem Tr.ice (t : Tr pe env h pe' env' h') (hl : h'.length = h.length) (d : dataAll xs = true) : frzM h (.ref h.length, h' ++ [.lst xs]) = some (.frl xs, h') := by
  unfold frzM
  have e : (h' ++ [MO.lst xs])[h.length]? = some (.lst xs) := by rw [← hl]; simp
  simp only [e]
  rw [if_pos]
  · congr 2
    rw [← hl]; simp
  · refine ⟨Nat.le_refl _, by simp [hl], fun i o hi q => ?_, lt_dataAll d⟩
    rw [List.getElem?_append_left (by rw [hl]; exact hi)] at q
    rcases t.dt i o hi q with w | ⟨xs, rfl, dx⟩
    · exact .inl w
    · exact .inr (lt_dataAll dx)
theorem frz_data (d : v.data = true) : frzM h (v, h') = some (MP.gc h (v, h')) := by
  unfold frzM
  cases v <;> first | rfl | (simp [MV.data] at d)
def ARel (h : MH) : List PV → List MV → Prop
  | [], [] => True
  | .d u :: as, v :: vs => (v = u ∧ u.data = true) ∧ ARel h as vs
  | .own xs :: as, v :: vs => (∃ p : Nat, v = .ref p ∧ h[p]? = some (.lst xs) ∧ dataAll xs = true) ∧ ARel h as vs
  | _, _ => False
def refsOf : List PV → List MV → List Nat
  | .d _ :: as, _ :: vs => refsOf as vs
  | .own _ :: as, .ref p :: vs => p :: refsOf as vs
  | _, _ => []
def Outs (h : MH) : List Nat → List (List MV) → Prop
  | [], [] => True
  | p :: ps, xs :: xss => (h[p]? = some (.lst xs) ∧ dataAll xs = true) ∧ Outs h ps xss
  | _, _ => False
def ResR (h h1 : MH) (w : PV) (v : MV) (h' : MH) : Prop := match w with
  | .d u => v = u ∧ u.data = true ∧ h' = h1
  | .own xs => v = .ref h.length ∧ h' = h1 ++ [.lst xs] ∧ dataAll xs = true
def CallOk (cf : Str → List MV → MH → R) (cp : Str → List PV → Option (PV × List (List MV))) : Prop := ∀ f args res outs, cp f args = some (res, outs) → ∀ vs h, ARel h args vs → (refsOf args vs).Nodup →
  ∃ v h' h1, cf f vs h = some (v, h') ∧ h1.length = h.length ∧ (∀ q : Nat, q < h.length → q ∉ refsOf args vs → h1[q]? = h[q]?) ∧ Outs h1 (refsOf args vs) outs ∧ ResR h h1 res v h'
/-- slots that were handed on, and their places -/
def Mv (np base : Nat) (env : Env) : List Nat → List Nat → Prop
  | [], [] => True
  | i :: is, p :: ps => (env[i]? = some (some (.ref p)) ∧ (np ≤ i → base ≤ p)) ∧ Mv np base env is ps
  | _, _ => False
theorem args_ok : ∀ {rs : List Rd} {vs : List MV} {pe pe1 : PEnv} {args : List PV} {is : List Nat}, Rel np base pe env h → RdRs env rs vs → argsP pe rs = some ((args, is), pe1) →
    ARel h args vs ∧ Rel np base pe1 env h ∧ (refsOf args vs).Nodup ∧ Mv np base env is (refsOf args vs) ∧ (∀ p ∈ refsOf args vs, Own pe env p ∧ ¬ Own pe1 env p) ∧ ∀ p, Own pe1 env p → Own pe env p
  | [], [], pe, pe1, args, is, r, e, q => by
    simp only [argsP] at q
    cases q
    exact ⟨True.intro, r, List.nodup_nil, True.intro, fun p hp => (by simp [refsOf] at hp), fun p hp => hp⟩
  | x :: rs, v :: vs, pe, pe1, args, is, r, e, q => by
    have dcase : ∀ u, v = u ∧ u.data = true → (argsP pe rs).map (fun q => ((PV.d u :: q.1.1, q.1.2), q.2)) = some ((args, is), pe1) → ARel h args (v :: vs) ∧ Rel np base pe1 env h ∧ (refsOf args (v :: vs)).Nodup ∧ Mv np base env is (refsOf args (v :: vs)) ∧ (∀ p ∈ refsOf args (v :: vs), Own pe env p ∧ ¬ Own pe1 env p) ∧ ∀ p, Own pe1 env p → Own pe env p := fun u hu q => by
      simp only [Option.map_eq_some_iff] at q
      obtain ⟨⟨⟨a1, i1⟩, p1⟩, q1, q2⟩ := q
      cases q2
      obtain ⟨b1, b2, b3, b4, b5, b6⟩ := args_ok r e.2 q1
      exact ⟨⟨hu, b1⟩, b2, b3, b4, b5, b6⟩
    cases x with
    | val u =>
      simp only [argsP] at q
      exact dcase u e.1 q
    | slot i =>
      simp only [argsP] at q
      split at q
      · rename_i u hu
        obtain ⟨a, b⟩ := r.d i u hu
        rw [show env[i]? = some (some v) from e.1] at a; cases a
        exact dcase _ ⟨rfl, b⟩ q
      · rename_i xs hx
        simp only [Option.map_eq_some_iff] at q
        obtain ⟨⟨⟨a1, i1⟩, p1⟩, q1, q2⟩ := q
        cases q2
        obtain ⟨p, f1, f2, f3, f4⟩ := r.o i xs hx
        rw [show env[i]? = some (some v) from e.1] at f1; cases f1
        obtain ⟨b1, b2, b3, b4, b5, b6⟩ := args_ok (r.out i) e.2 q1
        have no := r.notOwn hx e.1
        have so : Own pe env p := ⟨i, xs, hx, e.1⟩
        refine ⟨⟨⟨p, rfl, f2, f3⟩, b1⟩, b2, ?_, ⟨⟨e.1, f4⟩, b4⟩, fun q' hq => ?_, fun q' hq => (b6 q' hq).out⟩
        · refine List.nodup_cons.mpr ⟨fun z => no (b5 p z).1, b3⟩
        · rcases List.mem_cons.mp hq with rfl | w
          · exact ⟨so, fun z => no (b6 _ z)⟩
          · exact ⟨(b5 q' w).1.out, (b5 q' w).2⟩
      · cases q
  | [], _ :: _, _, _, _, _, _, e, _ => e.elim
  | _ :: _, [], _, _, _, _, _, e, _ => e.elim
theorem back_ok : ∀ {is ps : List Nat} {outs : List (List MV)} {pe1 pe' : PEnv}, Rel np base pe1 env h → Mv np base env is ps → ps.Nodup → (∀ p ∈ ps, ¬ Own pe1 env p) → Outs h ps outs → backP pe1 is outs = some pe' →
    Rel np base pe' env h ∧ ∀ q, Own pe' env q → Own pe1 env q ∨ q ∈ ps
  | [], [], [], pe1, pe', r, _, _, _, _, e => by
    simp only [backP] at e
    cases e
    exact ⟨r, fun q hq => .inl hq⟩
  | i :: is, p :: ps, xs :: outs, pe1, pe', r, m, nd, no, o, e => by
    simp only [backP] at e
    have hp := no p List.mem_cons_self
    have r1 := r.inn m.1.1 o.1.1 o.1.2 m.1.2 (fun z => hp z.out)
    obtain ⟨n1, n2⟩ := List.nodup_cons.mp nd
    obtain ⟨a, b⟩ := back_ok r1 m.2 n2 (fun q hq z => by
      rcases Own.inn m.1.1 z with w | w
      · rw [w] at hq; exact n1 hq
      · exact no q (List.mem_cons_of_mem _ hq) w) o.2 e
    refine ⟨a, fun q hq => ?_⟩
    rcases b q hq with w | w
    · rcases Own.inn m.1.1 w with z | z
      · exact .inr (by rw [z]; exact List.mem_cons_self)
      · exact .inl z
    · exact .inr (List.mem_cons_of_mem _ w)
  | [], _ :: _, _, _, _, _, m, _, _, _, _ => m.elim
  | _ :: _, [], _, _, _, _, m, _, _, _, _ => m.elim
  | [], [], _ :: _, _, _, _, _, _, _, o, _ => o.elim
  | _ :: _, _ :: _, [], _, _, _, _, _, _, o, _ => o.elim
end
end MP
namespace MP
open PySem
section
variable {np base : Nat} {pe pe' pe0 pe1 pe2 : PEnv} {env env' env0 env1 env2 : Env} {h h' h1 h2 : MH} {v u : MV} {xs ys : List MV}
theorem Tr.gc' (t : Tr pe env h pe' env' h') (hl : h'.length = h.length) (hv : v.lt h.length) : MP.gc h (v, h') = (v, h') := by
  have := gc_upd (h := h) (h' := h') (j := []) (v := v) hl (fun i o hi q => by
    rcases t.dt i o hi q with w | ⟨xs, rfl, dx⟩
    · exact .inl w
    · exact .inr (lt_dataAll dx)) hv
  simpa using this
mutual
theorem bind_ok : ∀ (t : Tg) {v : MV} {pe pe1 : PEnv} {env : Env}, Rel np base pe env h → v.data = true → bindP t v pe = some pe1 →
    ∃ env1, bindT t v env = some env1 ∧ Rel np base pe1 env1 h ∧ (∀ j, j ∉ slotsT t → env1[j]? = env[j]?) ∧ (∀ q, Own pe1 env1 q → Own pe env q) ∧ env1.length = env.length
  | .nm i, v, pe, pe1, env, r, d, e => by
    simp only [bindP] at e
    cases e
    have gp : ∀ {j : Nat} {xs : List MV}, (pe.set i (some (.d v)))[j]? = some (some (.own xs)) → pe[j]? = some (some (.own xs)) ∧ j ≠ i := fun {j xs} q => by
      rcases get_set q with ⟨_, z, _⟩ | ⟨n, q⟩
      · cases z
      · exact ⟨q, n⟩
    have ge : ∀ {j : Nat}, j ≠ i → (env.set i (some v))[j]? = env[j]? := fun {j} n => List.getElem?_set_ne (Ne.symm n)
    refine ⟨env.set i (some v), by simp only [bindT], ⟨r.hb, by simpa using r.len, fun j w q => ?_, fun j xs q => ?_, fun a b xs ys p q1 q2 q3 q4 => ?_⟩, fun j hj => ge (by simpa [slotsT] using hj), fun q ⟨j, xs, a, b⟩ => ?_, by simp⟩
    · rcases get_set q with ⟨rfl, z, hl⟩ | ⟨n, q⟩
      · cases z
        exact ⟨List.getElem?_set_self (by rw [← r.len]; exact hl), d⟩
      · rw [ge n]; exact r.d j w q
    · obtain ⟨q1, n⟩ := gp q
      rw [ge n]; exact r.o j xs q1
    · obtain ⟨a1, n1⟩ := gp q1
      obtain ⟨a2, n2⟩ := gp q2
      rw [ge n1] at q3
      rw [ge n2] at q4
      exact r.inj a b xs ys p a1 a2 q3 q4
    · obtain ⟨a1, n⟩ := gp a
      rw [ge n] at b
      exact ⟨j, xs, a1, b⟩
  | .tup ts, v, pe, pe1, env, r, d, e => by
    cases v <;> first | (simp only [bindP] at e; cases e; done) | skip
    rename_i xs
    simp only [bindP] at e
    simp only [bindT]
    exact binds_ok ts r (by simpa using d) e
theorem binds_ok : ∀ (ts : List Tg) {vs : List MV} {pe pe1 : PEnv} {env : Env}, Rel np base pe env h → dataAll vs = true → bindPs ts vs pe = some pe1 →
    ∃ env1, bindTs ts vs env = some env1 ∧ Rel np base pe1 env1 h ∧ (∀ j, j ∉ slotsTs ts → env1[j]? = env[j]?) ∧ (∀ q, Own pe1 env1 q → Own pe env q) ∧ env1.length = env.length
  | [], [], pe, pe1, env, r, d, e => by
    simp only [bindPs] at e
    cases e
    exact ⟨env, by simp only [bindTs], r, fun _ _ => rfl, fun _ q => q, rfl⟩
  | [], _ :: _, pe, pe1, env, r, d, e => by simp only [bindPs] at e; cases e
  | t :: ts, [], pe, pe1, env, r, d, e => by simp only [bindPs] at e; cases e
  | t :: ts, v :: vs, pe, pe1, env, r, d, e => by
    simp only [bindPs, Option.bind_eq_some_iff] at e
    obtain ⟨pa, e1, e2⟩ := e
    simp only [dataAll_cons, Bool.and_eq_true] at d
    obtain ⟨ea, f1, f2, f3, f4, f5⟩ := bind_ok t r d.1 e1
    obtain ⟨eb, g1, g2, g3, g4, g5⟩ := binds_ok ts f2 d.2 e2
    refine ⟨eb, by simp only [bindTs, f1, Option.bind_some]; exact g1, g2, fun j hj => ?_, fun q hq => f4 q (g4 q hq), g5.trans f5⟩
    have hj' : j ∉ slotsT t ∧ j ∉ slotsTs ts := by simpa [slotsTs] using hj
    rw [g3 j hj'.2, f3 j hj'.1]
end
theorem wipeP_get : ∀ {own : List Nat} {pe : PEnv} {j : Nat} {w : PV}, (wipeP pe own)[j]? = some (some w) → j ∉ own ∧ pe[j]? = some (some w)
  | [], _, _, _, q => ⟨by simp, q⟩
  | i :: is, pe, j, w, q => by
    obtain ⟨a, b⟩ := get_out (pe := wipeP pe is) q
    obtain ⟨c, d⟩ := wipeP_get b
    exact ⟨by simp [a, c], d⟩
theorem wipeP_len : ∀ {own : List Nat} {pe : PEnv}, (wipeP pe own).length = pe.length
  | [], _ => rfl
  | i :: is, pe => by show ((wipeP pe is).set i none).length = _; rw [List.length_set, wipeP_len]
theorem wipeM_len : ∀ {own : List Nat} {env : Env}, (wipeM env own).length = env.length
  | [], _ => rfl
  | i :: is, pe => by show ((wipeM pe is).set i none).length = _; rw [List.length_set, wipeM_len]
theorem wipeM_out : ∀ {own : List Nat} {env : Env} {j : Nat}, j ∉ own → (wipeM env own)[j]? = env[j]?
  | [], _, _, _ => rfl
  | i :: is, env, j, n => by
    show ((wipeM env is).set i none)[j]? = _
    have n' : j ≠ i ∧ j ∉ is := by simpa using n
    rw [List.getElem?_set_ne (Ne.symm n'.1), wipeM_out n'.2]
theorem rewipe {own : List Nat} (r : Rel np base pe env1 h) (he : ∀ j, j ∉ own → env1[j]? = env[j]?) (hl : env1.length = env.length) :
    Rel np base (wipeP pe own) (wipeM env own) h ∧ ∀ q, Own (wipeP pe own) (wipeM env own) q → Own pe env1 q := by
  have g : ∀ {j : Nat}, j ∉ own → (wipeM env own)[j]? = env1[j]? := fun {j} n => by rw [wipeM_out n, he j n]
  refine ⟨⟨r.hb, by rw [wipeP_len, wipeM_len, r.len, hl], fun j v q => ?_, fun j xs q => ?_, fun a b xs ys p q1 q2 q3 q4 => ?_⟩, fun q ⟨j, xs, a, b⟩ => ?_⟩
  · obtain ⟨n, q⟩ := wipeP_get q
    rw [g n]; exact r.d j v q
  · obtain ⟨n, q⟩ := wipeP_get q
    rw [g n]; exact r.o j xs q
  · obtain ⟨n1, a1⟩ := wipeP_get q1
    obtain ⟨n2, a2⟩ := wipeP_get q2
    rw [g n1] at q3
    rw [g n2] at q4
    exact r.inj a b xs ys p a1 a2 q3 q4
  · obtain ⟨n, a⟩ := wipeP_get a
    rw [g n] at b
    exact ⟨j, xs, a, b⟩
theorem restP_get : ∀ {own : List Nat} {o pe : PEnv} {j : Nat} {w : PV}, (restP o pe own)[j]? = some (some w) → (j ∉ own ∧ pe[j]? = some (some w)) ∨ ∃ v, w = .d v ∧ o[j]? = some (some (.d v))
  | [], _, _, _, _, q => .inl ⟨by simp, q⟩
  | i :: is, o, pe, j, w, q => by
    have q : ((restP o pe is).set i (match o[i]? with | some (some (.d v)) => some (.d v) | _ => none))[j]? = some (some w) := q
    by_cases hi : i = j
    · subst hi
      rw [List.getElem?_set] at q
      rw [if_pos rfl] at q
      split at q
      · split at q
        · rename_i v hv
          cases q
          exact .inr ⟨v, rfl, hv⟩
        · cases q
      · cases q
    · rw [List.getElem?_set_ne hi] at q
      rcases restP_get q with ⟨n, q⟩ | q
      · exact .inl ⟨by simp [Ne.symm hi, n], q⟩
      · exact .inr q
theorem restP_len : ∀ {own : List Nat} {o pe : PEnv}, (restP o pe own).length = pe.length
  | [], _, _ => rfl
  | i :: is, o, pe => by show ((restP o pe is).set i _).length = _; rw [List.length_set, restP_len]
theorem rest_ok {own : List Nat} (r0 : Rel np base pe0 env h0) (r : Rel np base (wipeP pe own) (wipeM env own) h) : Rel np base (restP pe0 pe own) env h ∧ ∀ q, Own (restP pe0 pe own) env q → Own (wipeP pe own) (wipeM env own) q := by
  have wp : ∀ {j : Nat} {w : PV}, j ∉ own → pe[j]? = some (some w) → (wipeP pe own)[j]? = some (some w) := by
    intro j w n q
    have : ∀ (own : List Nat), j ∉ own → (wipeP pe own)[j]? = some (some w) := by
      intro own
      induction own with
      | nil => intro _; exact q
      | cons i is ih =>
        intro n
        have n' : j ≠ i ∧ j ∉ is := by simpa using n
        show ((wipeP pe is).set i none)[j]? = _
        rw [List.getElem?_set_ne (Ne.symm n'.1)]; exact ih n'.2
    exact this own n
  have go : ∀ {j : Nat} {xs : List MV}, (restP pe0 pe own)[j]? = some (some (.own xs)) → j ∉ own ∧ (wipeP pe own)[j]? = some (some (.own xs)) := fun {j xs} q => by
    rcases restP_get q with ⟨n, q⟩ | ⟨v, z, _⟩
    · exact ⟨n, wp n q⟩
    · cases z
  refine ⟨⟨r.hb, by rw [restP_len]; have := r.len; rw [wipeP_len, wipeM_len] at this; exact this, fun j v q => ?_, fun j xs q => ?_, fun a b xs ys p q1 q2 q3 q4 => ?_⟩, fun q ⟨j, xs, a, b⟩ => ?_⟩
  · rcases restP_get q with ⟨n, q⟩ | ⟨w, z, q⟩
    · have := r.d j v (wp n q)
      rw [wipeM_out n] at this; exact this
    · cases z
      exact r0.d j v q
  · obtain ⟨n, q⟩ := go q
    have := r.o j xs q
    rw [wipeM_out n] at this; exact this
  · obtain ⟨n1, a1⟩ := go q1
    obtain ⟨n2, a2⟩ := go q2
    rw [← wipeM_out n1] at q3
    rw [← wipeM_out n2] at q4
    exact r.inj a b xs ys p a1 a2 q3 q4
  · obtain ⟨n, a⟩ := go a
    rw [← wipeM_out n] at b
    exact ⟨j, xs, a, b⟩
/-- from (pe, env, h) a step gives the data u, leaving pe' -/
def DP (np base : Nat) (pe : PEnv) (env : Env) (h : MH) (u : MV) (pe' : PEnv) (r : R) : Prop := ∃ h1, r = some (u, h1) ∧ u.data = true ∧ h1.length = h.length ∧ Rel np base pe' env h1 ∧ Tr pe env h pe' env h1
theorem compP_ok {tgt : Tg} {own : List Nat} {st : Its} {tst elt : Env → MH → R} {tstp eltp : PEnv → Option (MV × PEnv)} (hsub : ∀ i ∈ slotsT tgt, i ∈ own)
    (ht : ∀ pe e h b pe', Rel np base pe e h → tstp pe = some (b, pe') → DP np base pe e h b pe' (tst e h))
    (hel : ∀ pe e h b pe', Rel np base pe e h → eltp pe = some (b, pe') → DP np base pe e h b pe' (elt e h)) :
    ∀ (items acc acc' : List MV) (pe pe' : PEnv) (h : MH), Rel np base (wipeP pe own) (wipeM env own) h → (∀ p ys, st.src = some (p, ys) → p < h.length ∧ h[p]? = some (.lst ys) ∧ ¬ Own (wipeP pe own) (wipeM env own) p) → dataAll items = true → dataAll acc = true →
      compP tgt own tstp eltp items acc pe = some (acc', pe') → ∃ h1, compL tgt st (wipeM env own) tst elt items acc h = some (acc', h1) ∧ dataAll acc' = true ∧ h1.length = h.length ∧ Rel np base (wipeP pe' own) (wipeM env own) h1 ∧ Tr (wipeP pe own) (wipeM env own) h (wipeP pe' own) (wipeM env own) h1
  | [], acc, acc', pe, pe', h, r, hs, _, da, e => by
    simp only [compP] at e
    cases e
    have st' : st.still h := by
      unfold Its.still
      cases hsrc : st.src with
      | none => trivial
      | some q => obtain ⟨p, ys⟩ := q; exact (hs p ys hsrc).2.1
    exact ⟨h, by simp only [compL, if_pos st'], da, rfl, r, .refl⟩
  | v :: vs, acc, acc', pe, pe', h, r, hs, di, da, e => by
    have st' : st.still h := by
      unfold Its.still
      cases hsrc : st.src with
      | none => trivial
      | some q => obtain ⟨p, ys⟩ := q; exact (hs p ys hsrc).2.1
    simp only [dataAll_cons, Bool.and_eq_true] at di
    simp only [compP, Option.bind_eq_some_iff] at e
    obtain ⟨P1, e1, ⟨b, P2⟩, e2, e3⟩ := e
    obtain ⟨E1, f1, f2, f3, f4, f5⟩ := bind_ok tgt r di.1 e1
    obtain ⟨h1, g1, gd, g2, g3, g4⟩ := ht _ _ _ _ _ f2 e2
    have t1 : Tr (wipeP pe own) (wipeM env own) h P1 E1 h := ⟨Nat.le_refl _, fun _ _ _ => rfl, fun _ _ _ q => .inl q, fun q hq _ => f4 q hq⟩
    have hE : ∀ j, j ∉ own → E1[j]? = env[j]? := fun j n => by rw [f3 j fun z => n (hsub j z), wipeM_out n]
    have hEl : E1.length = env.length := by rw [f5, wipeM_len]
    have fin : ∀ (P3 : PEnv) (h2 : MH) (acc2 : List MV), dataAll acc2 = true → h2.length = h.length → Rel np base P3 E1 h2 → Tr (wipeP pe own) (wipeM env own) h P3 E1 h2 → compP tgt own tstp eltp vs acc2 P3 = some (acc', pe') →
        ∃ h3, compL tgt st (wipeM env own) tst elt vs acc2 h2 = some (acc', h3) ∧ dataAll acc' = true ∧ h3.length = h.length ∧ Rel np base (wipeP pe' own) (wipeM env own) h3 ∧ Tr (wipeP pe own) (wipeM env own) h (wipeP pe' own) (wipeM env own) h3 := by
      intro P3 h2 acc2 d2 l2 r3 t3 e4
      obtain ⟨w1, w2⟩ := rewipe r3 hE hEl
      have t4 : Tr (wipeP pe own) (wipeM env own) h (wipeP P3 own) (wipeM env own) h2 := t3.trans ⟨Nat.le_refl _, fun _ _ _ => rfl, fun _ _ _ q => .inl q, fun q hq _ => w2 q hq⟩
      obtain ⟨h3, k1, k2, k3, k4, k5⟩ := compP_ok hsub ht hel vs acc2 acc' P3 pe' h2 w1 (fun p ys hp => by
        obtain ⟨q1, q2, q3⟩ := hs p ys hp
        exact ⟨by rw [l2]; exact q1, by rw [t4.fr p q1 q3]; exact q2, fun z => q3 (t4.ow p z q1)⟩) di.2 d2 e4
      exact ⟨h3, k1, k2, k3.trans l2, k4, t4.trans k5⟩
    simp only [compL, if_pos st', f1, Option.bind_some, g1]
    split at e3
    · rename_i _ hb
      cases hb
      simp only [Option.bind_eq_some_iff] at e3
      obtain ⟨⟨w, P3⟩, e4, e5⟩ := e3
      obtain ⟨h2, k1, kd, k2, k3, k4⟩ := hel _ _ _ _ _ g3 e4
      simp only [k1, Option.bind_some]
      rw [((t1.trans g4).trans k4).gc (k2.trans g2) kd]
      exact fin P3 h2 _ (by simp [da, kd]) (k2.trans g2) k3 ((t1.trans g4).trans k4) e5
    · rename_i _ hb
      cases hb
      exact fin P2 h1 acc da g2 g3 (t1.trans g4) e3
    · cases e3
def SrcR (pe : PEnv) (env : Env) (s : Option (Nat × List MV)) (q : Option (Nat × List MV)) : Prop := match q with
  | none => s = none
  | some (i, xs) => ∃ p, s = some (p, xs) ∧ pe[i]? = some (some (.own xs)) ∧ env[i]? = some (some (.ref p))
theorem its_ok {k : IK} {rs : List Rd} {vs items : List MV} {src : Option (Nat × List MV)} (r : Rel np base pe1 env h1) (t : Tr pe env h pe1 env h1) (hl : h1.length = h.length) (e : RdRs env rs vs) (q : itsP k pe1 rs = some (items, src)) :
    ∃ st, itsG k h (vs, h1) = some (st, h1) ∧ st.items = items ∧ dataAll items = true ∧ SrcR pe1 env st.src src := by
  have other : k ≠ .ex → ∃ st, itsG k h (vs, h1) = some (st, h1) ∧ st.items = items ∧ dataAll items = true ∧ SrcR pe1 env st.src src := fun hk => by
    have q' : ((dVs pe1 rs).bind fun vs => (itsM k [] vs).map fun st => (st.items, (none : Option (Nat × List MV)))) = some (items, src) := by
      cases k with
      | ex => exact absurd rfl hk
      | _ => exact q
    simp only [Option.bind_eq_some_iff, Option.map_eq_some_iff] at q'
    obtain ⟨us, q1, st, q2, q3⟩ := q'
    cases q3
    obtain ⟨rfl, dd⟩ := dVs_ok r e q1
    obtain ⟨a, b, c⟩ := its_rel (h := h1) hk dd q2
    refine ⟨st, ?_, rfl, c, b⟩
    have gn : (MP.gc h (.non, h1)) = (.non, h1) := t.gc hl (by simp)
    cases k with
    | ex => exact absurd rfl hk
    | rng1 => simp only [itsG, gn, a, Option.map_some]
    | rng2 => simp only [itsG, gn, a, Option.map_some]
    | enum =>
      cases vs with
      | nil => simp [itsM] at q2
      | cons v vs =>
        cases vs with
        | cons _ _ => simp [itsM] at q2
        | nil =>
          have g1 : MP.gc h (v, h1) = (v, h1) := t.gc hl (by simpa using dd)
          simp only [itsG, g1, a, Option.map_some]
  cases k with
  | rng1 => exact other (by decide)
  | rng2 => exact other (by decide)
  | enum => exact other (by decide)
  | ex =>
    simp only [itsP] at q
    split at q
    · rename_i x
      match vs, e with
      | [v], e =>
        have dcase : ∀ u, v = u ∧ u.data = true → (seqM [] u).map (fun xs => (xs, (none : Option (Nat × List MV)))) = some (items, src) → ∃ st, itsG .ex h ([v], h1) = some (st, h1) ∧ st.items = items ∧ dataAll items = true ∧ SrcR pe1 env st.src src := fun u hu q => by
          obtain ⟨rfl, d⟩ := hu
          simp only [Option.map_eq_some_iff] at q
          obtain ⟨xs, q1, q2⟩ := q
          cases q2
          have g1 : MP.gc h (v, h1) = (v, h1) := t.gc hl d
          simp only [itsG, g1]
          cases v <;> first | (cases q1; done) | (simp [MV.data] at d; done) | skip
          all_goals
            cases q1
            exact ⟨⟨_, none⟩, rfl, rfl, by simpa using d, rfl⟩
        cases x with
        | val u => exact dcase u e.1 q
        | slot i =>
          simp only [itsX] at q
          split at q
          · rename_i u hu
            obtain ⟨a, b⟩ := r.d i u hu
            rw [show env[i]? = some (some v) from e.1] at a; cases a
            exact dcase v ⟨rfl, b⟩ q
          · rename_i ys hy
            cases q
            obtain ⟨p, a, b, c, _⟩ := r.o i _ hy
            rw [show env[i]? = some (some v) from e.1] at a; cases a
            have hp : p < h.length := by rw [← hl]; exact (List.getElem?_eq_some_iff.mp b).1
            have g1 : MP.gc h (.ref p, h1) = (.ref p, h1) := t.gc' hl (by unfold MV.lt; exact hp)
            refine ⟨⟨items, some (p, items)⟩, ?_, rfl, c, p, rfl, hy, e.1⟩
            simp only [itsG, g1, itsM, b, Option.map_some]
          · cases q
    · cases q
end
end MP
namespace MP
open PySem
def XP (np base : Nat) (pe : PEnv) (env : Env) (h : MH) (w : PV) (pe' : PEnv) (r : R) : Prop := ∃ v h' h1, r = some (v, h') ∧ h1.length = h.length ∧ Rel np base pe' env h1 ∧ Tr pe env h pe' env h1 ∧ ResR h h1 w v h'
def SX (g : Mod) (cf : Str → List MV → MH → R) (cp : Str → List PV → Option (PV × List (List MV))) (e : E) : Prop := ∀ np base pe env h w pe', Rel np base pe env h → pX g cp e pe = some (w, pe') → XP np base pe env h w pe' (evE g cf e env h)
def SXs (g : Mod) (cf : Str → List MV → MH → R) (cp : Str → List PV → Option (PV × List (List MV))) (es : List E) : Prop := ∀ np base pe env h rs pe', Rel np base pe env h → pRds g cp es pe = some (rs, pe') →
  ∃ vs h1, evEs g cf es env h = some (vs, h1) ∧ h1.length = h.length ∧ Rel np base pe' env h1 ∧ Tr pe env h pe' env h1 ∧ RdRs env rs vs
section
variable {g : Mod} {cf : Str → List MV → MH → R} {cp : Str → List PV → Option (PV × List (List MV))}
variable {np base : Nat} {pe pe' pe0 pe1 pe2 : PEnv} {env env' env0 env1 env2 : Env} {h h' h1 h2 : MH} {v u : MV} {xs ys : List MV} {w : PV}
theorem SX.d {e : E} (s : SX g cf cp e) (r : Rel np base pe env h) (q : dOf (pX g cp e pe) = some (u, pe')) : DP np base pe env h u pe' (evE g cf e env h) := by
  unfold dOf at q
  simp only [Option.bind_eq_some_iff] at q
  obtain ⟨⟨w, p1⟩, q1, q2⟩ := q
  cases w with
  | own xs => cases q2
  | d x =>
    cases q2
    obtain ⟨v, h', h1, a, b, c, d, ⟨rfl, e2, rfl⟩⟩ := s _ _ _ _ _ _ _ r q1
    exact ⟨h', a, e2, b, c, d⟩
theorem SX.rd {e : E} {x : Rd} (s : SX g cf cp e) (r : Rel np base pe env h) (q : rdE e (pX g cp e pe) pe = some (x, pe')) : ∃ v h1, evE g cf e env h = some (v, h1) ∧ h1.length = h.length ∧ Rel np base pe' env h1 ∧ Tr pe env h pe' env h1 ∧ RdR env x v := by
  have other : (dOf (pX g cp e pe)).map (fun r => (Rd.val r.1, r.2)) = some (x, pe') → ∃ v h1, evE g cf e env h = some (v, h1) ∧ h1.length = h.length ∧ Rel np base pe' env h1 ∧ Tr pe env h pe' env h1 ∧ RdR env x v := fun q => by
    simp only [Option.map_eq_some_iff] at q
    obtain ⟨⟨u, p1⟩, q1, q2⟩ := q
    cases q2
    obtain ⟨h1, a, b, c, d, e⟩ := s.d r q1
    exact ⟨u, h1, a, c, d, e, rfl, b⟩
  cases e with
  | var i =>
    simp only [rdE] at q
    split at q
    · rename_i w hw
      cases q
      have : ∃ v, env[i]? = some (some v) := by
        cases w with
        | d x => exact ⟨_, (r.d i x hw).1⟩
        | own xs => obtain ⟨p, a, _⟩ := r.o i xs hw; exact ⟨_, a⟩
      obtain ⟨v, hv⟩ := this
      exact ⟨v, h, by simp only [evE, hv], rfl, r, .refl, hv⟩
    · cases q
  | _ => exact other q
theorem XP.of (a : DP np base pe env h u pe' (some (v, h1))) : XP np base pe env h (.d u) pe' (some (v, h1)) := by
  obtain ⟨h2, e, b, c, d, t⟩ := a
  cases e
  exact ⟨_, _, _, rfl, c, d, t, rfl, b, rfl⟩
theorem lift_ok {r r' : MV × MH} (hr : Rel np base pe' env h1) (t : Tr pe env h pe' env h1) (hl : h1.length = h.length) (k : ROk h1 r r') (q : liftPV pe' (some r) = some (w, pe1)) : XP np base pe env h w pe1 (some r') := by
  unfold liftPV at q
  rcases k with ⟨x, rfl, d, rfl⟩ | ⟨xs, rfl, d, rfl⟩
  · cases q
    exact ⟨_, _, _, rfl, hl, hr, t, rfl, d, rfl⟩
  · cases q
    exact ⟨_, _, _, rfl, hl, hr, t, by rw [hl], rfl, d⟩
theorem lift_d {x : MV} (hr : Rel np base pe' env h1) (t : Tr pe env h pe' env h1) (hl : h1.length = h.length) (d : x.data = true) (q : liftPV pe' (some (x, [])) = some (w, pe1)) : XP np base pe env h w pe1 (some (x, h1)) := lift_ok hr t hl (.d d) q
theorem give {x : MV} (hr : Rel np base pe' env h1) (t : Tr pe env h pe' env h1) (hl : h1.length = h.length) (d : x.data = true) : XP np base pe env h (.d x) pe' (some (x, h1)) := ⟨_, _, _, rfl, hl, hr, t, rfl, d, rfl⟩
theorem giveL (hr : Rel np base pe' env h1) (t : Tr pe env h pe' env h1) (hl : h1.length = h.length) (d : dataAll xs = true) : XP np base pe env h (.own xs) pe' (some (.ref h1.length, h1 ++ [.lst xs])) := ⟨_, _, _, rfl, hl, hr, t, by rw [hl], rfl, d⟩
theorem lift_some {r : R} (q : liftPV pe' r = some (w, pe1)) : ∃ z, r = some z := by
  cases r with
  | none => cases q
  | some z => exact ⟨z, rfl⟩
theorem RdRs.one {x : Rd} {vs : List MV} (e : RdRs env [x] vs) : ∃ v, vs = [v] ∧ RdR env x v := by
  match vs, e with
  | [v], e => exact ⟨v, rfl, e.1⟩
theorem sx_bin {o : BOp} {a b : E} (sa : SX g cf cp a) (sb : SX g cf cp b) : SX g cf cp (.bin o a b) := by
  intro np base pe env h w pe' r q
  simp only [pX, Option.bind_eq_some_iff] at q
  obtain ⟨⟨x, p1⟩, q1, ⟨y, p2⟩, q2, u1, q3, u2, q4, q5⟩ := q
  obtain ⟨v1, h1, a1, a2, a3, a4, a5⟩ := sa.rd r q1
  obtain ⟨v2, h2, b1, b2, b3, b4, b5⟩ := sb.rd a3 q2
  obtain ⟨z, hz⟩ := lift_some q5
  obtain ⟨z', c1, c2⟩ := (rd_ok b3 a5 q3).bin (rd_ok b3 b5 q4) hz
  simp only [evE, a1, b1, Option.bind_some, c1]
  rw [hz] at q5
  exact lift_ok b3 (a4.trans b4) (b2.trans a2) c2 q5
theorem sx_cmp {o : COp} {a b : E} (sa : SX g cf cp a) (sb : SX g cf cp b) : SX g cf cp (.cmp o a b) := by
  intro np base pe env h w pe' r q
  simp only [pX, Option.bind_eq_some_iff, Option.map_eq_some_iff] at q
  obtain ⟨⟨x, p1⟩, q1, ⟨y, p2⟩, q2, u1, q3, u2, q4, c, q5, q6⟩ := q
  cases q6
  obtain ⟨v1, h1, a1, a2, a3, a4, a5⟩ := sa.rd r q1
  obtain ⟨v2, h2, b1, b2, b3, b4, b5⟩ := sb.rd a3 q2
  obtain ⟨rfl, d1⟩ := dV_ok b3 a5 q3
  have c1 := RdEq.cmp d1 (rd_ok b3 b5 q4) q5
  simp only [evE, a1, b1, Option.bind_some, c1, Option.map_some]
  exact give b3 (a4.trans b4) (b2.trans a2) (by simp)
theorem cmp_d {o : COp} {a b : MV} {c : Bool} (da : a.data = true) (db : b.data = true) (q : cmpM o [] a b = some c) : cmpM o h a b = some c := RdEq.cmp da (.of db) q
theorem sx_chain {o1 o2 : COp} {a b c : E} (sa : SX g cf cp a) (sb : SX g cf cp b) (sc : SX g cf cp c) : SX g cf cp (.chain o1 o2 a b c) := by
  intro np base pe env h w pe' r q
  simp only [pX, Option.bind_eq_some_iff] at q
  obtain ⟨⟨x, p1⟩, q1, ⟨y, p2⟩, q2, c1, q3, q4⟩ := q
  obtain ⟨h1, a1, ad, a2, a3, a4⟩ := sa.d r q1
  obtain ⟨h2, b1, bd, b2, b3, b4⟩ := sb.d a3 q2
  have k1 := cmp_d (h := h2) ad bd q3
  simp only [evE, a1, b1, Option.bind_some, k1]
  cases c1 with
  | false =>
    rw [if_neg (by simp)] at q4 ⊢
    cases q4
    exact give b3 (a4.trans b4) (b2.trans a2) (by simp)
  | true =>
    rw [if_pos rfl] at q4 ⊢
    simp only [Option.bind_eq_some_iff, Option.map_eq_some_iff] at q4
    obtain ⟨⟨z, p3⟩, q5, c2, q6, q7⟩ := q4
    cases q7
    obtain ⟨h3, e1, ed, e2, e3, e4⟩ := sc.d b3 q5
    have k2 := cmp_d (h := h3) bd ed q6
    simp only [e1, Option.bind_some, k2, Option.map_some]
    exact give e3 ((a4.trans b4).trans e4) ((e2.trans b2).trans a2) (by simp)
theorem tru_d {a : MV} {c : Bool} (da : a.data = true) (q : truth [] a = some c) : truth h a = some c := (RdEq.of da).tru q
theorem sx_and {a b : E} (sa : SX g cf cp a) (sb : SX g cf cp b) : SX g cf cp (.and a b) := by
  intro np base pe env h w pe' r q
  simp only [pX, Option.bind_eq_some_iff] at q
  obtain ⟨⟨x, p1⟩, q1, c, q3, q4⟩ := q
  obtain ⟨h1, a1, ad, a2, a3, a4⟩ := sa.d r q1
  have k1 := tru_d (h := h1) ad q3
  simp only [evE, a1, Option.bind_some, k1]
  cases c with
  | false =>
    rw [if_neg (by simp)] at q4 ⊢
    cases q4
    exact give a3 a4 a2 ad
  | true =>
    rw [if_pos rfl] at q4 ⊢
    simp only [Option.map_eq_some_iff] at q4
    obtain ⟨⟨z, p3⟩, q5, q7⟩ := q4
    cases q7
    obtain ⟨h3, e1, ed, e2, e3, e4⟩ := sb.d a3 q5
    rw [e1]
    exact give e3 (a4.trans e4) (e2.trans a2) ed
theorem sx_or {a b : E} (sa : SX g cf cp a) (sb : SX g cf cp b) : SX g cf cp (.or a b) := by
  intro np base pe env h w pe' r q
  simp only [pX, Option.bind_eq_some_iff] at q
  obtain ⟨⟨x, p1⟩, q1, c, q3, q4⟩ := q
  obtain ⟨h1, a1, ad, a2, a3, a4⟩ := sa.d r q1
  have k1 := tru_d (h := h1) ad q3
  simp only [evE, a1, Option.bind_some, k1]
  cases c with
  | true =>
    rw [if_pos rfl] at q4 ⊢
    cases q4
    exact give a3 a4 a2 ad
  | false =>
    rw [if_neg (by simp)] at q4 ⊢
    simp only [Option.map_eq_some_iff] at q4
    obtain ⟨⟨z, p3⟩, q5, q7⟩ := q4
    cases q7
    obtain ⟨h3, e1, ed, e2, e3, e4⟩ := sb.d a3 q5
    rw [e1]
    exact give e3 (a4.trans e4) (e2.trans a2) ed
theorem sx_not {a : E} (sa : SX g cf cp a) : SX g cf cp (.not a) := by
  intro np base pe env h w pe' r q
  simp only [pX, Option.bind_eq_some_iff, Option.map_eq_some_iff] at q
  obtain ⟨⟨x, p1⟩, q1, u1, q3, c, q4, q5⟩ := q
  cases q5
  obtain ⟨v1, h1, a1, a2, a3, a4, a5⟩ := sa.rd r q1
  have k1 := (rd_ok a3 a5 q3).tru q4
  simp only [evE, a1, Option.bind_some, k1, Option.map_some]
  exact give a3 a4 a2 (by simp)
theorem XP.trans {r : R} (a : XP np base pe1 env h1 w pe' r) (t : Tr pe env h pe1 env h1) (hl : h1.length = h.length) : XP np base pe env h w pe' r := by
  obtain ⟨v, h', h2, b1, b2, b3, b4, b5⟩ := a
  refine ⟨v, h', h2, b1, b2.trans hl, b3, t.trans b4, ?_⟩
  cases w with
  | d x => exact b5
  | own ys => exact ⟨by rw [b5.1, hl], b5.2⟩
theorem sx_ife {c a b : E} (sc : SX g cf cp c) (sa : SX g cf cp a) (sb : SX g cf cp b) : SX g cf cp (.ife c a b) := by
  intro np base pe env h w pe' r q
  simp only [pX, Option.bind_eq_some_iff] at q
  obtain ⟨⟨x, p1⟩, q1, u1, q3, c, q4, q5⟩ := q
  obtain ⟨v1, h1, a1, a2, a3, a4, a5⟩ := sc.rd r q1
  have k1 := (rd_ok a3 a5 q3).tru q4
  simp only [evE, a1, Option.bind_some, k1]
  cases c with
  | true =>
    rw [if_pos rfl] at q5 ⊢
    exact (sa _ _ _ _ _ _ _ a3 q5).trans a4 a2
  | false =>
    rw [if_neg (by simp)] at q5 ⊢
    exact (sb _ _ _ _ _ _ _ a3 q5).trans a4 a2
theorem sx_idx {a b : E} (sa : SX g cf cp a) (sb : SX g cf cp b) : SX g cf cp (.idx a b) := by
  intro np base pe env h w pe' r q
  simp only [pX, Option.bind_eq_some_iff, Option.map_eq_some_iff] at q
  obtain ⟨⟨x, p1⟩, q1, ⟨y, p2⟩, q2, u1, q3, u2, q4, c, q5, q6⟩ := q
  cases q6
  obtain ⟨v1, h1, a1, a2, a3, a4, a5⟩ := sa.rd r q1
  obtain ⟨v2, h2, b1, b2, b3, b4, b5⟩ := sb.rd a3 q2
  obtain ⟨c1, cd⟩ := (rd_ok b3 a5 q3).at_ (rd_ok b3 b5 q4) q5
  simp only [evE, a1, b1, Option.bind_some, c1, Option.map_some]
  exact give b3 (a4.trans b4) (b2.trans a2) cd
theorem sx_slice {a lo hi : E} (sa : SX g cf cp a) (sl : SX g cf cp lo) (sh : SX g cf cp hi) : SX g cf cp (.slice a lo hi) := by
  intro np base pe env h w pe' r q
  simp only [pX, Option.bind_eq_some_iff] at q
  obtain ⟨⟨x, p1⟩, q1, ⟨l, p2⟩, q2, ⟨m, p3⟩, q3, u1, q4, i, q5, j, q6, q7⟩ := q
  obtain ⟨v1, h1, a1, a2, a3, a4, a5⟩ := sa.rd r q1
  obtain ⟨h2, b1, bd, b2, b3, b4⟩ := sl.d a3 q2
  obtain ⟨h3, c1, cd, c2, c3, c4⟩ := sh.d b3 q3
  obtain ⟨z, hz⟩ := lift_some q7
  obtain ⟨z', k1, k2⟩ := (rd_ok c3 a5 q4).slice hz
  simp only [evE, a1, b1, c1, Option.bind_some, q5, q6, k1]
  rw [hz] at q7
  exact lift_ok c3 ((a4.trans b4).trans c4) ((c2.trans b2).trans a2) k2 q7
theorem sx_neg {a : E} (sa : SX g cf cp a) : SX g cf cp (.neg a) := by
  intro np base pe env h w pe' r q
  simp only [pX, Option.bind_eq_some_iff] at q
  obtain ⟨⟨x, p1⟩, q1, q7⟩ := q
  obtain ⟨h1, a1, ad, a2, a3, a4⟩ := sa.d r q1
  obtain ⟨z, hz⟩ := lift_some q7
  obtain ⟨y, rfl, dy, k⟩ := neg_rel (h := h1) hz
  simp only [evE, a1, Option.bind_some, k]
  rw [hz] at q7
  exact lift_d a3 a4 a2 dy q7
theorem sx_back {a : E} (sa : SX g cf cp a) : SX g cf cp (.back a) := by
  intro np base pe env h w pe' r q
  simp only [pX, Option.bind_eq_some_iff] at q
  obtain ⟨⟨x, p1⟩, q1, q7⟩ := q
  obtain ⟨h1, a1, ad, a2, a3, a4⟩ := sa.d r q1
  obtain ⟨z, hz⟩ := lift_some q7
  obtain ⟨y, rfl, dy, k⟩ := back_rel (h := h1) ad hz
  simp only [evE, a1, Option.bind_some, k]
  rw [hz] at q7
  exact lift_d a3 a4 a2 dy q7
theorem sx_lenset {a : E} (sa : SX g cf cp a) : SX g cf cp (.lenset a) := by
  intro np base pe env h w pe' r q
  simp only [pX, Option.bind_eq_some_iff] at q
  obtain ⟨⟨x, p1⟩, q1, u1, q3, q7⟩ := q
  obtain ⟨v1, h1, a1, a2, a3, a4, a5⟩ := sa.rd r q1
  obtain ⟨z, hz⟩ := lift_some q7
  obtain ⟨y, rfl, dy, k⟩ := ls_rel (rd_ok a3 a5 q3) hz
  simp only [evE, a1, Option.bind_some, k]
  rw [hz] at q7
  exact lift_d a3 a4 a2 dy q7
theorem sx_gflt {i : Nat} {a : E} (sa : SX g cf cp a) : SX g cf cp (.gflt i a) := by
  intro np base pe env h w pe' r q
  simp only [pX, Option.bind_eq_some_iff] at q
  obtain ⟨⟨x, p1⟩, q1, q7⟩ := q
  obtain ⟨h1, a1, ad, a2, a3, a4⟩ := sa.d r q1
  unfold gfP at q7
  split at q7
  · rename_i t ht
    obtain ⟨z, hz⟩ := lift_some q7
    obtain ⟨y, rfl, dy, k⟩ := gf_rel (h := h1) ad (a3.d i _ ht).1 hz
    simp only [evE, a1, Option.bind_some, k]
    rw [hz] at q7
    exact lift_d a3 a4 a2 dy q7
  · cases q7
theorem sx_isi {a : E} {t : TyN} (sa : SX g cf cp a) : SX g cf cp (.isi a t) := by
  intro np base pe env h w pe' r q
  simp only [pX, Option.bind_eq_some_iff, Option.map_eq_some_iff] at q
  obtain ⟨⟨x, p1⟩, q1, u1, q3, c, q4, q5⟩ := q
  cases q5
  obtain ⟨v1, h1, a1, a2, a3, a4, a5⟩ := sa.rd r q1
  have k1 := (rd_ok a3 a5 q3).isi q4
  simp only [evE, a1, Option.bind_some, k1, Option.map_some]
  exact give a3 a4 a2 (by simp)
theorem sx_frz {a : E} (sa : SX g cf cp a) : SX g cf cp (.frz a) := by
  intro np base pe env h w pe' r q
  simp only [pX, Option.map_eq_some_iff] at q
  obtain ⟨⟨w1, p1⟩, q1, q2⟩ := q
  cases q2
  obtain ⟨v, h', h1, a1, a2, a3, a4, a5⟩ := sa _ _ _ _ _ _ _ r q1
  simp only [evE, a1, Option.bind_some]
  cases w1 with
  | d x =>
    obtain ⟨rfl, d, rfl⟩ := a5
    rw [frz_data d, a4.gc a2 d]
    exact give a3 a4 a2 d
  | own ys =>
    obtain ⟨rfl, rfl, d⟩ := a5
    rw [a4.ice a2 d]
    exact give a3 a4 a2 (by simpa using d)
theorem sx_tup {es : List E} (s : SXs g cf cp es) : SX g cf cp (.tup es) := by
  intro np base pe env h w pe' r q
  simp only [pX, Option.bind_eq_some_iff, Option.map_eq_some_iff] at q
  obtain ⟨⟨rs, p1⟩, q1, vs, q2, q3⟩ := q
  cases q3
  obtain ⟨us, h1, a1, a2, a3, a4, a5⟩ := s _ _ _ _ _ _ _ r q1
  obtain ⟨rfl, d⟩ := dVs_ok a3 a5 q2
  simp only [evE, a1, Option.bind_some]
  exact give a3 a4 a2 (by simpa using d)
theorem sx_lst {es : List E} (s : SXs g cf cp es) : SX g cf cp (.lst es) := by
  intro np base pe env h w pe' r q
  simp only [pX, Option.bind_eq_some_iff, Option.map_eq_some_iff] at q
  obtain ⟨⟨rs, p1⟩, q1, vs, q2, q3⟩ := q
  cases q3
  obtain ⟨us, h1, a1, a2, a3, a4, a5⟩ := s _ _ _ _ _ _ _ r q1
  obtain ⟨rfl, d⟩ := dVs_ok a3 a5 q2
  simp only [evE, a1, Option.bind_some]
  exact giveL a3 a4 a2 d
theorem sx_bi {f : Bi} {es : List E} (s : SXs g cf cp es) : SX g cf cp (.bi f es) := by
  intro np base pe env h w pe' r q
  simp only [pX, Option.bind_eq_some_iff] at q
  obtain ⟨⟨rs, p1⟩, q1, vs, q2, q3⟩ := q
  obtain ⟨us, h1, a1, a2, a3, a4, a5⟩ := s _ _ _ _ _ _ _ r q1
  have e := rds_ok a3 a5 q2
  obtain ⟨z, hz⟩ := lift_some q3
  obtain ⟨z', k1, k2⟩ := bi_rel e hz
  simp only [evE, a1, Option.bind_some, k1]
  rw [hz] at q3
  exact lift_ok a3 a4 a2 k2 q3
theorem sx_lrng {k : IK} {es : List E} (s : SXs g cf cp es) : SX g cf cp (.lrng k es) := by
  intro np base pe env h w pe' r q
  simp only [pX, Option.bind_eq_some_iff] at q
  obtain ⟨⟨rs, p1⟩, q1, vs, q2, q3⟩ := q
  obtain ⟨us, h1, a1, a2, a3, a4, a5⟩ := s _ _ _ _ _ _ _ r q1
  obtain ⟨rfl, d⟩ := dVs_ok a3 a5 q2
  simp only [evE, a1, Option.bind_some]
  cases k with
  | ex => cases q3
  | enum => cases q3
  | rng1 =>
    simp only [Option.map_eq_some_iff] at q3 ⊢
    obtain ⟨st, b1, b2⟩ := q3
    cases b2
    obtain ⟨c1, c2, c3⟩ := its_rel (h := h1) (by decide) d b1
    simp only [c1, Option.map_some]
    exact giveL a3 a4 a2 c3
  | rng2 =>
    simp only [Option.map_eq_some_iff] at q3 ⊢
    obtain ⟨st, b1, b2⟩ := q3
    cases b2
    obtain ⟨c1, c2, c3⟩ := its_rel (h := h1) (by decide) d b1
    simp only [c1, Option.map_some]
    exact giveL a3 a4 a2 c3
theorem sx_meth {m : Me} {o : E} {es : List E} (s : SXs g cf cp es) : SX g cf cp (.meth m o es) := by
  intro np base pe env h w pe' r q
  cases o with
  | var j =>
    simp only [pX, Option.bind_eq_some_iff] at q
    obtain ⟨⟨rs, p1⟩, q1, vs, q2, q3⟩ := q
    obtain ⟨us, h1, a1, a2, a3, a4, a5⟩ := s _ _ _ _ _ _ _ r q1
    obtain ⟨rfl, d⟩ := dVs_ok a3 a5 q2
    unfold methP at q3
    simp only at q3
    split at q3
    · rename_i xs hx
      split at q3
      · rename_i x ys hm
        cases q3
        obtain ⟨p, b1, b2, b3, b4⟩ := a3.o j xs hx
        obtain ⟨c1, c2, c3⟩ := meth_rel b2 b3 d hm
        obtain ⟨r2, t2⟩ := a3.setOwn hx b1 c3
        simp only [evE, b1, Option.bind_some, a1, c1]
        exact give r2 (a4.trans t2) (by simpa using a2) c2
      · cases q3
    · cases q3
  | _ => simp only [pX] at q; cases q
theorem sx_call {f : Str} {es : List E} (ck : CallOk cf cp) (s : SXs g cf cp es) : SX g cf cp (.call f es) := by
  intro np base pe env h w pe' r q
  simp only [pX, Option.bind_eq_some_iff, Option.map_eq_some_iff] at q
  obtain ⟨⟨rs, p1⟩, q1, ⟨⟨args, is⟩, p2⟩, q2, ⟨res, outs⟩, q3, p3, q4, q5⟩ := q
  cases q5
  obtain ⟨vs, h1, a1, a2, a3, a4, a5⟩ := s _ _ _ _ _ _ _ r q1
  obtain ⟨b1, b2, b3, b4, b5, b6⟩ := args_ok a3 a5 q2
  obtain ⟨v, h', h2, c1, c2, c3, c4, c5⟩ := ck _ _ _ _ q3 vs h1 b1 b3
  have r2 : Rel np base p2 env h2 := by
    refine ⟨by rw [c2]; exact b2.hb, b2.len, b2.d, fun i xs q => ?_, b2.inj⟩
    obtain ⟨p, k1, k2, k3, k4⟩ := b2.o i xs q
    have np : p ∉ refsOf args vs := fun z => (b5 p z).2 ⟨i, xs, q, k1⟩
    exact ⟨p, k1, by rw [c3 p (List.getElem?_eq_some_iff.mp k2).1 np]; exact k2, k3, k4⟩
  obtain ⟨d1, d2⟩ := back_ok r2 b4 b3 (fun p hp => (b5 p hp).2) c4 q4
  have t : Tr p1 env h1 pe' env h2 := by
    refine ⟨by rw [c2]; exact Nat.le_refl _, fun q hq n => c3 q hq fun z => n (b5 q z).1, fun q o hq e => ?_, fun q hq _ => ?_⟩
    · by_cases hm : q ∈ refsOf args vs
      · right
        have : ∀ (ps : List Nat) (outs : List (List MV)), Outs h2 ps outs → q ∈ ps → ∃ xs, o = .lst xs ∧ dataAll xs = true := by
          intro ps
          induction ps with
          | nil => intro outs _ hm; simp at hm
          | cons p ps ih =>
            intro outs ho hm
            cases outs with
            | nil => exact ho.elim
            | cons xs xss =>
              rcases List.mem_cons.mp hm with rfl | hm
              · rw [ho.1.1] at e; cases e
                exact ⟨xs, rfl, ho.1.2⟩
              · exact ih xss ho.2 hm
        exact this _ _ c4 hm
      · left
        rw [← c3 q hq hm]; exact e
    · rcases d2 q hq with z | z
      · exact b6 q z
      · exact (b5 q z).1
  simp only [evE, a1, Option.bind_some, c1]
  refine ⟨v, h', h2, rfl, c2.trans a2, d1, a4.trans t, ?_⟩
  cases res with
  | d x => exact c5
  | own ys => exact ⟨by rw [c5.1, a2], c5.2⟩
end
end MP
namespace MP
open PySem
section
variable {g : Mod} {cf : Str → List MV → MH → R} {cp : Str → List PV → Option (PV × List (List MV))}
variable {np base : Nat} {pe pe' pe0 pe1 pe2 : PEnv} {env env' env0 env1 env2 : Env} {h h' h1 h2 : MH} {v u : MV} {xs ys : List MV} {w : PV}
/-- the slot that is walked stands aside -/
theorem moveOut_ok {src : Option (Nat × List MV)} (r : Rel np base pe env h) : Rel np base (moveOut pe src) env h ∧ ∀ q, Own (moveOut pe src) env q → Own pe env q := by
  cases src with
  | none => exact ⟨r, fun _ q => q⟩
  | some q => obtain ⟨i, xs⟩ := q; exact ⟨r.out i, fun q hq => hq.out⟩
theorem src_pin {s src : Option (Nat × List MV)} (r : Rel np base pe env h) (k : SrcR pe env s src) : ∀ p ys, s = some (p, ys) → p < h.length ∧ h[p]? = some (.lst ys) ∧ ¬ Own (moveOut pe src) env p := by
  intro p ys e
  cases src with
  | none => rw [show s = none from k] at e; cases e
  | some q =>
    obtain ⟨i, xs⟩ := q
    obtain ⟨p', k1, k2, k3⟩ := k
    rw [k1] at e; cases e
    obtain ⟨p2, a, b, _⟩ := r.o i _ k2
    rw [k3] at a; cases a
    exact ⟨(List.getElem?_eq_some_iff.mp b).1, b, r.notOwn k2 k3⟩
/-- and comes back -/
theorem moveIn_ok {src s : Option (Nat × List MV)} (r0 : Rel np base pe env h) (k : SrcR pe env s src) (he : ∀ i xs, src = some (i, xs) → env1[i]? = env[i]?) (r : Rel np base pe1 env1 h1) (hp : ∀ p ys, s = some (p, ys) → h1[p]? = some (.lst ys) ∧ ¬ Own pe1 env1 p) :
    Rel np base (moveIn pe1 src) env1 h1 ∧ ∀ q, Own (moveIn pe1 src) env1 q → Own pe1 env1 q ∨ Own pe env q := by
  cases src with
  | none => exact ⟨r, fun q hq => .inl hq⟩
  | some q =>
    obtain ⟨i, xs⟩ := q
    obtain ⟨p, k1, k2, k3⟩ := k
    obtain ⟨a, b⟩ := hp p xs k1
    have e1 : env1[i]? = some (some (.ref p)) := by rw [he i xs rfl]; exact k3
    obtain ⟨p2, c1, c2, c3, c4⟩ := r0.o i xs k2
    rw [k3] at c1; cases c1
    refine ⟨r.inn e1 a c3 c4 fun z => b z.out, fun q hq => ?_⟩
    rcases Own.inn e1 hq with rfl | z
    · exact .inr ⟨i, xs, k2, k3⟩
    · exact .inl z
theorem sx_comp {elt : E} {t : Tg} {k : IK} {es cs : List E} {own : List (Str × Nat)} (ss : SXs g cf cp es) (sc : ∀ c ∈ cs, SX g cf cp c) (se : SX g cf cp elt) : SX g cf cp (.comp elt t k es cs own) := by
  intro np base pe env h w pe' r q
  simp only [pX] at q
  split at q
  · rename_i hsub
    simp only [Option.bind_eq_some_iff, Option.map_eq_some_iff] at q
    obtain ⟨⟨rs, p1⟩, q1, ⟨items, src⟩, q2, ⟨acc, p2⟩, q3, q4⟩ := q
    cases q4
    obtain ⟨vs, h1, a1, a2, a3, a4, a5⟩ := ss _ _ _ _ _ _ _ r q1
    obtain ⟨st, b1, rfl, b3, b4⟩ := its_ok a3 a4 a2 a5 q2
    obtain ⟨m1, m2⟩ := moveOut_ok (src := src) a3
    obtain ⟨w1, w2⟩ := rewipe (own := own.map (·.2)) m1 (fun _ _ => rfl) rfl
    have pin := src_pin a3 b4
    obtain ⟨h2, c1, c2, c3, c4, c5⟩ := compP_ok (env := env) (st := st) (tst := fun e h => match (generalizing := false) cs with
        | [] => some (.bl true, h)
        | c :: _ => (evE g cf c e h).bind fun x => (truth x.2 x.1).map fun b => MP.gc h (.bl b, x.2)) (elt := fun e h => evE g cf elt e h) (fun i hi => by
          have := List.all_eq_true.mp hsub i hi
          simpa using this)
      (fun pe e h b pe' r q => by
        cases cs with
        | nil =>
          cases q
          exact ⟨h, rfl, by simp, rfl, r, .refl⟩
        | cons c cs =>
          simp only [Option.bind_eq_some_iff, Option.map_eq_some_iff] at q
          obtain ⟨⟨x, p1⟩, q1, u1, q3, cc, q4, q5⟩ := q
          cases q5
          obtain ⟨v1, h1, a1, a2, a3, a4, a5⟩ := (sc c List.mem_cons_self).rd r q1
          have k1 := (rd_ok a3 a5 q3).tru q4
          refine ⟨h1, ?_, by simp, a2, a3, a4⟩
          simp only [a1, Option.bind_some, k1, Option.map_some, a4.gc a2 (v := .bl cc) (by simp)])
      (fun pe e h b pe' r q => se.d r q) st.items [] acc (moveOut p1 src) p2 h1 w1 (fun p ys hp => ⟨(pin p ys hp).1, (pin p ys hp).2.1, fun z => (pin p ys hp).2.2 (w2 p z)⟩) b3 rfl q3
    obtain ⟨d1, d2⟩ := rest_ok m1 c4
    have t1 : Tr p1 env h1 (wipeP (moveOut p1 src) (own.map (·.2))) (wipeM env (own.map (·.2))) h1 := ⟨Nat.le_refl _, fun _ _ _ => rfl, fun _ _ _ q => .inl q, fun q hq _ => m2 q (w2 q hq)⟩
    have t2 : Tr p1 env h1 (restP (moveOut p1 src) p2 (own.map (·.2))) env h2 := (t1.trans c5).trans ⟨Nat.le_refl _, fun _ _ _ => rfl, fun _ _ _ q => .inl q, fun q hq _ => d2 q hq⟩
    obtain ⟨e1, e2⟩ := moveIn_ok (env1 := env) (h1 := h2) a3 b4 (fun _ _ _ => rfl) d1 (fun p ys hp => by
      obtain ⟨k1, k2, k3⟩ := pin p ys hp
      have n0 : ¬ Own (wipeP (moveOut p1 src) (own.map (·.2))) (wipeM env (own.map (·.2))) p := fun z => k3 (w2 p z)
      exact ⟨by rw [c5.fr p k1 n0]; exact k2, fun z => n0 (c5.ow p (d2 p z) k1)⟩)
    have t3 : Tr p1 env h1 (moveIn (restP (moveOut p1 src) p2 (own.map (·.2))) src) env h2 := ⟨t2.len, t2.fr, t2.dt, fun q hq hl => by
      rcases e2 q hq with z | z
      · exact t2.ow q z hl
      · exact z⟩
    simp only [evE, a1, Option.bind_some, b1]
    erw [c1]
    exact giveL e1 (a4.trans t3) (c3.trans a2) c2
  · cases q
mutual
theorem sxE (ck : CallOk cf cp) : ∀ e : E, SX g cf cp e
  | .var i => by
    intro np base pe env h w pe' r q
    simp only [pX] at q
    split at q
    · rename_i x hx
      cases q
      obtain ⟨a, b⟩ := r.d i x hx
      simp only [evE, a]
      exact give r .refl rfl b
    · cases q
  | .non => by intro np base pe env h w pe' r q; simp only [pX] at q; cases q; simp only [evE]; exact give r .refl rfl (by simp)
  | .bl b => by intro np base pe env h w pe' r q; simp only [pX] at q; cases q; simp only [evE]; exact give r .refl rfl (by simp)
  | .int i => by intro np base pe env h w pe' r q; simp only [pX] at q; cases q; simp only [evE]; exact give r .refl rfl (by simp)
  | .str i => by intro np base pe env h w pe' r q; simp only [pX] at q; cases q; simp only [evE]; exact give r .refl rfl (by simp)
  | .glob x => by
    intro np base pe env h w pe' r q
    simp only [pX, Option.bind_eq_some_iff] at q
    obtain ⟨v, q1, q2⟩ := q
    split at q2
    · rename_i d
      cases q2
      simp only [evE, q1, Option.map_some]
      exact give r .refl rfl d
    · cases q2
  | .tup es => sx_tup (sxEs ck es)
  | .lst es => sx_lst (sxEs ck es)
  | .bin o a b => sx_bin (sxE ck a) (sxE ck b)
  | .neg a => sx_neg (sxE ck a)
  | .cmp o a b => sx_cmp (sxE ck a) (sxE ck b)
  | .chain o1 o2 a b c => sx_chain (sxE ck a) (sxE ck b) (sxE ck c)
  | .and a b => sx_and (sxE ck a) (sxE ck b)
  | .or a b => sx_or (sxE ck a) (sxE ck b)
  | .not a => sx_not (sxE ck a)
  | .ife c a b => sx_ife (sxE ck c) (sxE ck a) (sxE ck b)
  | .idx a i => sx_idx (sxE ck a) (sxE ck i)
  | .slice a lo hi => sx_slice (sxE ck a) (sxE ck lo) (sxE ck hi)
  | .call f es => sx_call ck (sxEs ck es)
  | .bi f es => sx_bi (sxEs ck es)
  | .isi a t => sx_isi (sxE ck a)
  | .meth m o es => sx_meth (sxEs ck es)
  | .comp elt t k es cs own => sx_comp (sxEs ck es) (sxAll ck cs) (sxE ck elt)
  | .lrng k es => sx_lrng (sxEs ck es)
  | .back a => sx_back (sxE ck a)
  | .gflt i a => sx_gflt (sxE ck a)
  | .lenset a => sx_lenset (sxE ck a)
  | .frz e => sx_frz (sxE ck e)
theorem sxEs (ck : CallOk cf cp) : ∀ es : List E, SXs g cf cp es
  | [] => by
    intro np base pe env h rs pe' r q
    simp only [pRds] at q
    cases q
    exact ⟨[], h, by simp only [evEs], rfl, r, .refl, True.intro⟩
  | e :: es => by
    intro np base pe env h rs pe' r q
    simp only [pRds, Option.bind_eq_some_iff, Option.map_eq_some_iff] at q
    obtain ⟨⟨x, p1⟩, q1, ⟨rs1, p2⟩, q2, q3⟩ := q
    cases q3
    obtain ⟨v, h1, a1, a2, a3, a4, a5⟩ := (sxE ck e).rd r q1
    obtain ⟨vs, h2, b1, b2, b3, b4, b5⟩ := sxEs ck es _ _ _ _ _ _ _ a3 q2
    exact ⟨v :: vs, h2, by simp only [evEs, a1, Option.bind_some, b1, Option.map_some], b2.trans a2, b3, a4.trans b4, a5, b5⟩
theorem sxAll (ck : CallOk cf cp) : ∀ es : List E, ∀ e ∈ es, SX g cf cp e
  | [], e, h => by simp at h
  | x :: xs, e, h => by
    rcases List.mem_cons.mp h with z | z
    · rw [z]; exact sxE ck x
    · exact sxAll ck xs e z
end
end
end MP
namespace MP
open PySem
mutual
theorem bindT_keep : ∀ (t : Tg) {v : MV} {env env1 : Env}, bindT t v env = some env1 → ∀ j, j ∉ slotsT t → env1[j]? = env[j]?
  | .nm i, v, env, env1, e, j, n => by
    simp only [bindT] at e
    cases e
    have : j ≠ i := by simpa [slotsT] using n
    exact List.getElem?_set_ne (Ne.symm this)
  | .tup ts, v, env, env1, e, j, n => by
    cases v <;> first | (simp only [bindT] at e; cases e; done) | skip
    simp only [bindT] at e
    exact bindTs_keep ts e j (by simpa [slotsT] using n)
theorem bindTs_keep : ∀ (ts : List Tg) {vs : List MV} {env env1 : Env}, bindTs ts vs env = some env1 → ∀ j, j ∉ slotsTs ts → env1[j]? = env[j]?
  | [], [], env, env1, e, j, n => by simp only [bindTs] at e; cases e; rfl
  | [], _ :: _, env, env1, e, j, n => by simp only [bindTs] at e; cases e
  | t :: ts, [], env, env1, e, j, n => by simp only [bindTs] at e; cases e
  | t :: ts, v :: vs, env, env1, e, j, n => by
    simp only [bindTs, Option.bind_eq_some_iff] at e
    obtain ⟨e0, e1, e2⟩ := e
    have n' : j ∉ slotsT t ∧ j ∉ slotsTs ts := by simpa [slotsTs] using n
    rw [bindTs_keep ts e2 j n'.2, bindT_keep t e1 j n'.1]
end
theorem forL_keep {t : Tg} {st : Its} {body : Env → MH → Option Out} {j : Nat} (n : j ∉ slotsT t) (hb : ∀ e h o, body e h = some o → o.env[j]? = e[j]?) : ∀ (items : List MV) (env : Env) (h : MH) (o : Out), forL t st body items env h = some o → o.env[j]? = env[j]?
  | [], env, h, o, e => by
    simp only [forL] at e
    split at e
    · cases e; rfl
    · cases e
  | v :: vs, env, h, o, e => by
    simp only [forL] at e
    split at e
    · simp only [Option.bind_eq_some_iff] at e
      obtain ⟨e1, q1, o1, q2, q3⟩ := e
      have k := (hb _ _ _ q2).trans (bindT_keep t q1 j n)
      split at q3
      · rw [forL_keep n hb vs _ _ _ q3, k]
      · rw [forL_keep n hb vs _ _ _ q3, k]
      · cases q3; exact k
      · cases q3; exact k
    · cases e
theorem whileL_keep {tst : Env → MH → R} {body : Env → MH → Option Out} {j : Nat} (hb : ∀ e h o, body e h = some o → o.env[j]? = e[j]?) : ∀ (n : Nat) (env : Env) (h : MH) (o : Out), whileL tst body n env h = some o → o.env[j]? = env[j]?
  | 0, env, h, o, e => by simp only [whileL] at e; cases e
  | n + 1, env, h, o, e => by
    simp only [whileL, Option.bind_eq_some_iff] at e
    obtain ⟨b, q1, q2⟩ := e
    split at q2
    · simp only [Option.bind_eq_some_iff] at q2
      obtain ⟨o1, q3, q4⟩ := q2
      have k := hb _ _ _ q3
      split at q4
      · rw [whileL_keep hb n _ _ _ q4, k]
      · rw [whileL_keep hb n _ _ _ q4, k]
      · cases q4; exact k
      · cases q4; exact k
    · cases q2; rfl
    · cases q2
section
variable {g : Mod} {cf : Str → List MV → MH → R} {j : Nat}
mutual
theorem keepS : ∀ (s : S) (env : Env) (h : MH) (o : Out), evS g cf s env h = some o → j ∉ sas s → o.env[j]? = env[j]?
  | .asg t e, env, h, o, q, n => by
    simp only [evS, Option.bind_eq_some_iff, Option.map_eq_some_iff] at q
    obtain ⟨x, q1, env', q2, rfl⟩ := q
    exact bindT_keep t q2 j (by simpa [sas] using n)
  | .setIx _ _ _, env, h, o, q, n => by
    simp only [evS, Option.bind_eq_some_iff, Option.map_eq_some_iff] at q
    obtain ⟨x, q1, y, q2, z, q3, h', q4, rfl⟩ := q
    rfl
  | .setSl _ _ _ _, env, h, o, q, n => by
    simp only [evS, Option.bind_eq_some_iff, Option.map_eq_some_iff] at q
    obtain ⟨x, q1, y, q2, h', q4, rfl⟩ := q
    rfl
  | .aug i _ _, env, h, o, q, n => by
    simp only [evS] at q
    split at q
    · simp only [Option.bind_eq_some_iff, Option.map_eq_some_iff] at q
      obtain ⟨x, q1, y, q2, rfl⟩ := q
      have : j ≠ i := by simpa [sas] using n
      exact List.getElem?_set_ne (Ne.symm this)
    · cases q
  | .ex _, env, h, o, q, n => by
    simp only [evS, Option.map_eq_some_iff] at q
    obtain ⟨x, q1, rfl⟩ := q
    rfl
  | .ret _, env, h, o, q, n => by
    simp only [evS, Option.map_eq_some_iff] at q
    obtain ⟨x, q1, rfl⟩ := q
    rfl
  | .retN, env, h, o, q, n => by simp only [evS] at q; cases q; rfl
  | .ite c a b, env, h, o, q, n => by
    simp only [evS, Option.bind_eq_some_iff] at q
    obtain ⟨x, q1, q2⟩ := q
    have n' : j ∉ sasL a ∧ j ∉ sasL b := by simpa [sas] using n
    split at q2
    · exact keepSs a _ _ _ q2 n'.1
    · exact keepSs b _ _ _ q2 n'.2
    · cases q2
  | .for_ t k es body, env, h, o, q, n => by
    simp only [evS, Option.bind_eq_some_iff] at q
    obtain ⟨x, q1, q2⟩ := q
    have n' : j ∉ slotsT t ∧ j ∉ sasL body := by simpa [sas] using n
    exact forL_keep n'.1 (fun e h o z => keepSs body _ _ _ z n'.2) _ _ _ _ q2
  | .while_ c body, env, h, o, q, n => by
    simp only [evS] at q
    have n' : j ∉ sasL body := by simpa [sas] using n
    exact whileL_keep (fun e h o z => keepSs body _ _ _ z n') _ _ _ _ q
  | .brk, env, h, o, q, n => by simp only [evS] at q; cases q; rfl
  | .cont, env, h, o, q, n => by simp only [evS] at q; cases q; rfl
  | .pass, env, h, o, q, n => by simp only [evS] at q; cases q; rfl
theorem keepSs : ∀ (ss : List S) (env : Env) (h : MH) (o : Out), evSs g cf ss env h = some o → j ∉ sasL ss → o.env[j]? = env[j]?
  | [], env, h, o, q, n => by simp only [evSs] at q; cases q; rfl
  | s :: ss, env, h, o, q, n => by
    simp only [evSs, Option.bind_eq_some_iff] at q
    obtain ⟨o1, q1, q2⟩ := q
    have n' : j ∉ sas s ∧ j ∉ sasL ss := by simpa [sasL] using n
    have k := keepS s _ _ _ q1 n'.1
    split at q2
    · rw [keepSs ss _ _ _ q2 n'.2, k]
    · cases q2; exact k
end
end
def FlR (base : Nat) (h : MH) : PFl → Fl → Prop
  | .nx, .nx => True
  | .bk, .bk => True
  | .ct, .ct => True
  | .rt (.d u), .rt v => v = u ∧ u.data = true
  | .rt (.own xs), .rt v => ∃ p : Nat, v = .ref p ∧ base ≤ p ∧ h[p]? = some (.lst xs) ∧ dataAll xs = true
  | _, _ => False
def SP (np base : Nat) (pe : PEnv) (env : Env) (h : MH) (o : POut) (r : Option Out) : Prop := ∃ o', r = some o' ∧ Rel np base o.env o'.env o'.h ∧ Tr pe env h o.env o'.env o'.h ∧ FlR base o'.h o.fl o'.fl
section
variable {g : Mod} {cf : Str → List MV → MH → R} {cp : Str → List PV → Option (PV × List (List MV))}
variable {np base : Nat} {pe pe' pe0 pe1 pe2 : PEnv} {env env' env0 env1 env2 : Env} {h h' h1 h2 : MH} {v u : MV} {xs ys : List MV} {w : PV}
theorem Rel.newOwn (r : Rel np base pe env h) (d : dataAll xs = true) (i : Nat) : Rel np base (pe.set i (some (.own xs))) (env.set i (some (.ref h.length))) (h ++ [.lst xs]) ∧ ∀ q, Own (pe.set i (some (.own xs))) (env.set i (some (.ref h.length))) q → q = h.length ∨ Own pe env q := by
  have ge : ∀ {j : Nat}, j ≠ i → (env.set i (some (.ref h.length)))[j]? = env[j]? := fun {j} n => List.getElem?_set_ne (Ne.symm n)
  have gs : i < pe.length → (env.set i (some (MV.ref h.length)))[i]? = some (some (.ref h.length)) := fun hl => List.getElem?_set_self (by rw [← r.len]; exact hl)
  refine ⟨⟨by have := r.hb; simp; omega, by simpa using r.len, fun j w q => ?_, fun j zs q => ?_, fun a b zs ws p q1 q2 q3 q4 => ?_⟩, fun q ⟨j, zs, a, b⟩ => ?_⟩
  · rcases get_set q with ⟨_, z, _⟩ | ⟨n, q⟩
    · cases z
    · rw [ge n]; exact r.d j w q
  · rcases get_set q with ⟨rfl, z, hl⟩ | ⟨n, q⟩
    · cases z
      exact ⟨h.length, gs hl, by simp, d, fun _ => r.hb⟩
    · obtain ⟨p, a, b, c, e⟩ := r.o j zs q
      exact ⟨p, by rw [ge n]; exact a, by rw [List.getElem?_append_left (List.getElem?_eq_some_iff.mp b).1]; exact b, c, e⟩
  · have key : ∀ {a b : Nat} {zs ws : List MV}, a = i → i < pe.length → b ≠ i → pe[b]? = some (some (.own ws)) → (env.set i (some (MV.ref h.length)))[a]? = some (some (.ref p)) → (env.set i (some (MV.ref h.length)))[b]? = some (some (.ref p)) → False := fun {a b zs ws} ha hl hb e1 e2 e3 => by
      subst ha
      rw [gs hl] at e2
      cases e2
      rw [ge hb] at e3
      have := r.lt ⟨b, ws, e1, e3⟩
      omega
    rcases get_set q1 with ⟨ha, _, hl⟩ | ⟨na, q1⟩
    · rcases get_set q2 with ⟨hb, _, _⟩ | ⟨nb, q2⟩
      · rw [ha, hb]
      · exact (key (zs := zs) ha hl nb q2 q3 q4).elim
    · rcases get_set q2 with ⟨hb, _, hl⟩ | ⟨nb, q2⟩
      · exact (key (zs := zs) hb hl na q1 q4 q3).elim
      · rw [ge na] at q3
        rw [ge nb] at q4
        exact r.inj a b _ _ p q1 q2 q3 q4
  · rcases get_set a with ⟨rfl, _, hl⟩ | ⟨n, a⟩
    · rw [gs hl] at b
      cases b
      exact .inl rfl
    · rw [ge n] at b
      exact .inr ⟨j, zs, a, b⟩
theorem tst_ok (ck : CallOk cf cp) {c : E} (r : Rel np base pe env h) {b : MV} (q : tstP g cp c pe = some (b, pe')) : DP np base pe env h b pe' (tstE g cf c env h) := by
  unfold tstP at q
  simp only [Option.bind_eq_some_iff, Option.map_eq_some_iff] at q
  obtain ⟨⟨x, p1⟩, q1, u1, q3, cc, q4, q5⟩ := q
  cases q5
  obtain ⟨v1, h1, a1, a2, a3, a4, a5⟩ := (sxE ck c).rd r q1
  have k1 := (rd_ok a3 a5 q3).tru q4
  refine ⟨h1, ?_, by simp, a2, a3, a4⟩
  simp only [tstE, a1, Option.bind_some, k1, Option.map_some, a4.gc a2 (v := .bl cc) (by simp)]
theorem forP_ok {t : Tg} {st : Its} {body : Env → MH → Option Out} {bodyp : PEnv → Option POut} (hb : ∀ pe env h o, Rel np base pe env h → bodyp pe = some o → SP np base pe env h o (body env h)) :
    ∀ (items : List MV) (pe : PEnv) (env : Env) (h : MH) (o : POut), Rel np base pe env h → (∀ p ys, st.src = some (p, ys) → p < h.length ∧ h[p]? = some (.lst ys) ∧ ¬ Own pe env p) → dataAll items = true → forP t bodyp items pe = some o → SP np base pe env h o (forL t st body items env h)
  | [], pe, env, h, o, r, hs, _, e => by
    simp only [forP] at e
    cases e
    have st' : st.still h := by
      unfold Its.still
      cases hsrc : st.src with
      | none => trivial
      | some q => obtain ⟨p, ys⟩ := q; exact (hs p ys hsrc).2.1
    exact ⟨⟨.nx, env, h⟩, by simp only [forL, if_pos st'], r, .refl, True.intro⟩
  | v :: vs, pe, env, h, o, r, hs, di, e => by
    have st' : st.still h := by
      unfold Its.still
      cases hsrc : st.src with
      | none => trivial
      | some q => obtain ⟨p, ys⟩ := q; exact (hs p ys hsrc).2.1
    simp only [dataAll_cons, Bool.and_eq_true] at di
    simp only [forP, Option.bind_eq_some_iff] at e
    obtain ⟨P1, e1, o1, e2, e3⟩ := e
    obtain ⟨E1, f1, f2, f3, f4, f5⟩ := bind_ok t r di.1 e1
    have t1 : Tr pe env h P1 E1 h := ⟨Nat.le_refl _, fun _ _ _ => rfl, fun _ _ _ q => .inl q, fun q hq _ => f4 q hq⟩
    obtain ⟨o', g1, g2, g3, g4⟩ := hb _ _ _ _ f2 e2
    have t2 := t1.trans g3
    have rest : forP t bodyp vs o1.env = some o → SP np base pe env h o (forL t st body vs o'.env o'.h) := fun e4 => by
      obtain ⟨o2, k1, k2, k3, k4⟩ := forP_ok hb vs o1.env o'.env o'.h o g2 (fun p ys hp => by
        obtain ⟨q1, q2, q3⟩ := hs p ys hp
        exact ⟨Nat.lt_of_lt_of_le q1 t2.len, by rw [t2.fr p q1 q3]; exact q2, fun z => q3 (t2.ow p z q1)⟩) di.2 e4
      exact ⟨o2, k1, k2, t2.trans k3, k4⟩
    simp only [forL, if_pos st', f1, Option.bind_some, g1]
    obtain ⟨fl, oe⟩ := o1
    obtain ⟨fl', oe', oh'⟩ := o'
    cases fl with
    | nx => cases fl' <;> first | (exact g4.elim) | exact rest e3
    | ct => cases fl' <;> first | (exact g4.elim) | exact rest e3
    | bk =>
      cases fl' <;> first | (exact g4.elim) | skip
      cases e3
      exact ⟨_, rfl, g2, t2, True.intro⟩
    | rt w =>
      cases e3
      cases fl' <;> first | (cases w <;> exact g4.elim) | skip
      exact ⟨_, rfl, g2, t2, g4⟩
theorem varsOf_ok : ∀ {es : List E} {js : List Nat}, varsOf es = some js → es = js.map E.var
  | [], js, q => by simp only [varsOf] at q; cases q; rfl
  | e :: es, js, q => by
    cases e <;> first | (simp only [varsOf] at q; cases q; done) | skip
    simp only [varsOf, Option.map_eq_some_iff] at q
    obtain ⟨r, q1, rfl⟩ := q
    rw [varsOf_ok q1]; rfl
theorem useV_ok {t : Tg} {k : IK} {es : List E} {ns : List Nat} {i : Nat} {js : List Nat} (q : useV t k es pe ns = some (i, js)) : k = .ex ∧ t = .nm i ∧ es = [.frz (.lst (js.map E.var))] ∧ (∀ j ∈ js, (j ≠ i ∧ j ∉ ns) ∧ isSet pe j = true) ∧ i ∉ ns := by
  unfold useV at q
  cases k <;> first | (cases q; done) | skip
  cases t with
  | tup ts => cases q
  | nm i' =>
    simp only at q
    split at q
    · rename_i js' hj
      split at q
      · rename_i hc
        cases q
        simp only [Bool.and_eq_true, List.all_eq_true, bne_iff_ne, ne_eq, Bool.not_eq_true', List.contains_eq_mem, decide_eq_false_iff_not] at hc
        refine ⟨rfl, rfl, ?_, fun j hj' => ⟨⟨(hc.1.2 j hj').1.2, (hc.1.2 j hj').2⟩, (hc.1.2 j hj').1.1⟩, hc.2⟩
        unfold dispV at hj
        split at hj
        · rw [varsOf_ok hj]
        · cases hj
      · cases q
    · cases q
def Vals2 (env : Env) : List Nat → List MV → Prop
  | [], [] => True
  | j :: js, v :: vs => env[j]? = some (some v) ∧ Vals2 env js vs
  | _, _ => False
theorem Vals2.keep : ∀ {js : List Nat} {vs : List MV}, Vals2 env js vs → (∀ j ∈ js, env1[j]? = env[j]?) → Vals2 env1 js vs
  | [], [], _, _ => True.intro
  | j :: js, v :: vs, e, k => ⟨by rw [k j List.mem_cons_self]; exact e.1, Vals2.keep e.2 fun j hj => k j (List.mem_cons_of_mem _ hj)⟩
  | [], _ :: _, e, _ => e.elim
  | _ :: _, [], e, _ => e.elim
theorem forV_ok {i : Nat} {st : Its} {body : Env → MH → Option Out} {bodyp : PEnv → Option POut} (hst : st.src = none) (hb : ∀ pe env h o, Rel np base pe env h → bodyp pe = some o → SP np base pe env h o (body env h)) :
    ∀ (js : List Nat) (vs : List MV) (pe : PEnv) (env : Env) (h : MH) (o : POut), (∀ j ∈ js, j ≠ i ∧ ∀ e h o, body e h = some o → o.env[j]? = e[j]?) → (∀ e h o, body e h = some o → o.env[i]? = e[i]?) → Rel np base pe env h → Vals2 env js vs → forV np i bodyp js pe = some o → SP np base pe env h o (forL (.nm i) st body vs env h)
  | [], [], pe, env, h, o, kp, ki, r, _, e => by
    simp only [forV] at e
    cases e
    have st' : st.still h := by unfold Its.still; rw [hst]; trivial
    exact ⟨⟨.nx, env, h⟩, by simp only [forL, if_pos st'], r, .refl, True.intro⟩
  | j :: js, v :: vs, pe, env, h, o, kp, ki, r, hv, e => by
    have st' : st.still h := by unfold Its.still; rw [hst]; trivial
    obtain ⟨hji, hjk⟩ := kp j List.mem_cons_self
    simp only [forV] at e
    split at e
    · rename_i x hx
      simp only [Option.bind_eq_some_iff] at e
      obtain ⟨o1, e2, e3⟩ := e
      obtain ⟨a, d⟩ := r.d j x hx
      rw [hv.1] at a; cases a
      obtain ⟨E1, f1, f2, f3, f4, f5⟩ := bind_ok (.nm i) (pe1 := pe.set i (some (.d v))) r d (by simp only [bindP])
      have t1 : Tr pe env h (pe.set i (some (.d v))) E1 h := ⟨Nat.le_refl _, fun _ _ _ => rfl, fun _ _ _ q => .inl q, fun q hq _ => f4 q hq⟩
      obtain ⟨o', g1, g2, g3, g4⟩ := hb _ _ _ _ f2 e2
      have t2 := t1.trans g3
      have kk : ∀ j' ∈ js, o'.env[j']? = env[j']? := fun j' hj' => by
        obtain ⟨n1, n2⟩ := kp j' (List.mem_cons_of_mem _ hj')
        rw [n2 _ _ _ g1, f3 j' (by simpa [slotsT] using n1)]
      have rest : forV np i bodyp js o1.env = some o → SP np base pe env h o (forL (.nm i) st body vs o'.env o'.h) := fun e4 => by
        obtain ⟨o2, k1, k2, k3, k4⟩ := forV_ok hst hb js vs o1.env o'.env o'.h o (fun j hj => kp j (List.mem_cons_of_mem _ hj)) ki g2 (hv.2.keep kk) e4
        exact ⟨o2, k1, k2, t2.trans k3, k4⟩
      simp only [forL, if_pos st', f1, Option.bind_some, g1]
      obtain ⟨fl, oe⟩ := o1
      obtain ⟨fl', oe', oh'⟩ := o'
      cases fl with
      | nx => cases fl' <;> first | (exact g4.elim) | exact rest e3
      | ct => cases fl' <;> first | (exact g4.elim) | exact rest e3
      | bk =>
        cases fl' <;> first | (exact g4.elim) | skip
        cases e3
        exact ⟨_, rfl, g2, t2, True.intro⟩
      | rt w =>
        cases e3
        cases fl' <;> first | (cases w <;> exact g4.elim) | skip
        exact ⟨_, rfl, g2, t2, g4⟩
    · rename_i xs hx
      split at e
      · rename_i hnp
        simp only [Option.bind_eq_some_iff] at e
        obtain ⟨o1, e2, e3⟩ := e
        obtain ⟨p, a1, a2, a3, a4⟩ := r.o j xs hx
        rw [hv.1] at a1; cases a1
        -- the list moves to slot i
        have ro := r.out j
        have no := r.notOwn hx hv.1
        have jE : (env.set i (some (MV.ref p)))[j]? = some (some (.ref p)) := by rw [List.getElem?_set_ne (Ne.symm hji)]; exact hv.1
        obtain ⟨E1, f1, f2, f3, f4, f5⟩ := bind_ok (.nm i) (v := .non) (pe1 := (pe.set j none).set i (some (.d .non))) ro (by simp) (by simp only [bindP])
        have hi : i < pe.length ∨ ¬ i < pe.length := by omega
        have hE1 : E1 = env.set i (some .non) := by simp only [bindT, Option.some.injEq] at f1; exact f1.symm
        have r1 : Rel np base ((pe.set j none).set i (some (.own xs))) (env.set i (some (.ref p))) h := by
          have q1 : Rel np base ((pe.set j none).set i none) (env.set i (some (.ref p))) h := by
            refine ⟨r.hb, by simpa using r.len, fun k w q => ?_, fun k zs q => ?_, fun k l zs ws q q1 q2 q3 q4 => ?_⟩
            · obtain ⟨n, q⟩ := get_out q
              rw [List.getElem?_set_ne (Ne.symm n)]; exact ro.d k w q
            · obtain ⟨n, q⟩ := get_out q
              rw [List.getElem?_set_ne (Ne.symm n)]; exact ro.o k zs q
            · obtain ⟨n1, q1⟩ := get_out q1
              obtain ⟨n2, q2⟩ := get_out q2
              rw [List.getElem?_set_ne (Ne.symm n1)] at q3
              rw [List.getElem?_set_ne (Ne.symm n2)] at q4
              exact ro.inj k l zs ws q q1 q2 q3 q4
          rcases hi with hi | hi
          · have q2 := q1.inn (j := i) (p := p) (xs := xs) (List.getElem?_set_self (by rw [← r.len]; exact hi)) a2 a3 (fun _ => a4 hnp) (fun ⟨k, zs, b1, b2⟩ => by
              obtain ⟨n, b1⟩ := get_out b1
              obtain ⟨n', b1⟩ := get_out b1
              rw [List.getElem?_set_ne (Ne.symm n)] at b2
              exact no ⟨k, zs, b1, b2⟩)
            have : (((pe.set j none).set i none).set i (some (.own xs))) = (pe.set j none).set i (some (.own xs)) := by rw [List.set_set]
            rw [this] at q2
            exact q2
          · have : (pe.set j none).set i (some (PV.own xs)) = (pe.set j none).set i none := by
              have hl : (pe.set j none).length ≤ i := by simp; omega
              rw [List.set_eq_of_length_le hl, List.set_eq_of_length_le hl]
            rw [this]; exact q1
        have t1 : Tr pe env h ((pe.set j none).set i (some (.own xs))) (env.set i (some (.ref p))) h := ⟨Nat.le_refl _, fun _ _ _ => rfl, fun _ _ _ q => .inl q, fun q ⟨k, zs, b1, b2⟩ _ => by
          rcases get_set b1 with ⟨rfl, _, hl⟩ | ⟨n, b1⟩
          · rw [List.getElem?_set_self (by rw [← r.len]; simpa using hl)] at b2
            cases b2
            exact ⟨j, xs, hx, hv.1⟩
          · rw [List.getElem?_set_ne (Ne.symm n)] at b2
            exact ⟨k, zs, (get_out b1).2, b2⟩⟩
        obtain ⟨o', g1, g2, g3, g4⟩ := hb _ _ _ _ r1 e2
        have t2 := t1.trans g3
        split at e3
        · rename_i ys hy
          have hil : i < pe.length := by
            have h1 := (List.getElem?_eq_some_iff.mp hy).1
            have h2 := g2.len
            have h3 : o'.env.length = env.length ∨ True := .inr trivial
            rcases hi with hi | hi
            · exact hi
            · exfalso
              have k1 := ki _ _ _ g1
              obtain ⟨p', b1, _⟩ := g2.o i ys hy
              rw [k1, List.getElem?_eq_none (by simp; rw [← r.len]; omega)] at b1
              cases b1
          obtain ⟨p', b1, b2, b3, b4⟩ := g2.o i ys hy
          have k1 := ki _ _ _ g1
          rw [List.getElem?_set_self (by rw [← r.len]; exact hil)] at k1
          rw [k1] at b1; cases b1
          have jO : o'.env[j]? = some (some (.ref p)) := by rw [hjk _ _ _ g1]; exact jE
          have r2 : Rel np base ((o1.env.set i none).set j (some (.own ys))) o'.env o'.h := (g2.out i).inn jO b2 b3 (fun _ => a4 hnp) fun z => g2.notOwn hy k1 z.out
          have t3 : Tr pe env h ((o1.env.set i none).set j (some (.own ys))) o'.env o'.h := ⟨t2.len, t2.fr, t2.dt, fun q hq hl => by
            rcases Own.inn jO hq with rfl | z
            · exact ⟨j, xs, hx, hv.1⟩
            · exact t2.ow q z.out hl⟩
          have kk : ∀ j' ∈ js, o'.env[j']? = env[j']? := fun j' hj' => by
            obtain ⟨n1, n2⟩ := kp j' (List.mem_cons_of_mem _ hj')
            rw [n2 _ _ _ g1, List.getElem?_set_ne (Ne.symm n1)]
          have rest : forV np i bodyp js ((o1.env.set i none).set j (some (.own ys))) = some o → SP np base pe env h o (forL (.nm i) st body vs o'.env o'.h) := fun e4 => by
            obtain ⟨o2, k1, k2, k3, k4⟩ := forV_ok hst hb js vs _ o'.env o'.h o (fun j hj => kp j (List.mem_cons_of_mem _ hj)) ki r2 (hv.2.keep kk) e4
            exact ⟨o2, k1, k2, t3.trans k3, k4⟩
          have fb : bindT (.nm i) (MV.ref p) env = some (env.set i (some (.ref p))) := by simp only [bindT]
          simp only [forL, if_pos st', fb, Option.bind_some, g1]
          obtain ⟨fl, oe⟩ := o1
          obtain ⟨fl', oe', oh'⟩ := o'
          cases fl with
          | nx => cases fl' <;> first | (exact g4.elim) | exact rest e3
          | ct => cases fl' <;> first | (exact g4.elim) | exact rest e3
          | bk =>
            cases fl' <;> first | (exact g4.elim) | skip
            cases e3
            exact ⟨_, rfl, r2, t3, True.intro⟩
          | rt w =>
            cases e3
            cases fl' <;> first | (cases w <;> exact g4.elim) | skip
            exact ⟨_, rfl, r2, t3, g4⟩
        · cases e3
      · cases e
    · cases e
  | [], _ :: _, _, _, _, _, _, _, _, hv, _ => hv.elim
  | _ :: _, [], _, _, _, _, _, _, _, hv, _ => hv.elim
theorem vars_ev (r : Rel np base pe env h) : ∀ (js : List Nat), (∀ j ∈ js, isSet pe j = true) → ∃ vs, evEs g cf (js.map E.var) env h = some (vs, h) ∧ Vals2 env js vs ∧ ltAll h.length vs
  | [], _ => ⟨[], by simp only [List.map_nil, evEs], True.intro, by unfold ltAll; trivial⟩
  | j :: js, hj => by
    obtain ⟨vs, a, b, c⟩ := vars_ev r js fun j hj' => hj j (List.mem_cons_of_mem _ hj')
    have hs := hj j List.mem_cons_self
    unfold isSet at hs
    split at hs
    · rename_i w hw
      have : ∃ v, env[j]? = some (some v) ∧ v.lt h.length := by
        cases w with
        | d x => obtain ⟨p, q⟩ := r.d j x hw; exact ⟨_, p, lt_data q⟩
        | own xs => obtain ⟨p, q, q2, _⟩ := r.o j xs hw; exact ⟨_, q, by unfold MV.lt; exact (List.getElem?_eq_some_iff.mp q2).1⟩
      obtain ⟨v, hv, hl⟩ := this
      exact ⟨v :: vs, by simp only [List.map_cons, evEs, evE, hv, Option.bind_some, a, Option.map_some], ⟨hv, b⟩, by unfold ltAll; exact ⟨hl, c⟩⟩
    · cases hs
theorem whileP_ok {tst : Env → MH → R} {tstp : PEnv → Option (MV × PEnv)} {body : Env → MH → Option Out} {bodyp : PEnv → Option POut} (ht : ∀ pe env h b pe', Rel np base pe env h → tstp pe = some (b, pe') → DP np base pe env h b pe' (tst env h)) (hb : ∀ pe env h o, Rel np base pe env h → bodyp pe = some o → SP np base pe env h o (body env h)) :
    ∀ (n : Nat) (pe : PEnv) (env : Env) (h : MH) (o : POut), Rel np base pe env h → whileP tstp bodyp n pe = some o → SP np base pe env h o (whileL tst body n env h)
  | 0, pe, env, h, o, r, e => by simp only [whileP] at e; cases e
  | n + 1, pe, env, h, o, r, e => by
    simp only [whileP, Option.bind_eq_some_iff] at e
    obtain ⟨⟨b, P1⟩, e1, e2⟩ := e
    obtain ⟨h1, g1, gd, g2, g3, g4⟩ := ht _ _ _ _ _ r e1
    simp only [whileL, g1, Option.bind_some]
    split at e2
    · rename_i _ hbt
      cases hbt
      simp only [Option.bind_eq_some_iff] at e2
      obtain ⟨o1, e3, e4⟩ := e2
      obtain ⟨o', k1, k2, k3, k4⟩ := hb _ _ _ _ g3 e3
      have t2 := g4.trans k3
      have rest : whileP tstp bodyp n o1.env = some o → SP np base pe env h o (whileL tst body n o'.env o'.h) := fun e5 => by
        obtain ⟨o2, l1, l2, l3, l4⟩ := whileP_ok ht hb n _ _ _ _ k2 e5
        exact ⟨o2, l1, l2, t2.trans l3, l4⟩
      simp only [k1, Option.bind_some]
      obtain ⟨fl, oe⟩ := o1
      obtain ⟨fl', oe', oh'⟩ := o'
      cases fl with
      | nx => cases fl' <;> first | (exact k4.elim) | exact rest e4
      | ct => cases fl' <;> first | (exact k4.elim) | exact rest e4
      | bk =>
        cases fl' <;> first | (exact k4.elim) | skip
        cases e4
        exact ⟨_, rfl, k2, t2, True.intro⟩
      | rt w =>
        cases e4
        cases fl' <;> first | (cases w <;> exact k4.elim) | skip
        exact ⟨_, rfl, k2, t2, k4⟩
    · rename_i _ hbt
      cases hbt
      cases e2
      exact ⟨_, rfl, g3, g4, True.intro⟩
    · cases e2
def SS (g : Mod) (cf : Str → List MV → MH → R) (cp : Str → List PV → Option (PV × List (List MV))) (ss : List S) : Prop := ∀ np base pe env h o, Rel np base pe env h → pSs g cp np ss pe = some o → SP np base pe env h o (evSs g cf ss env h)
theorem s_asg (ck : CallOk cf cp) (t : Tg) (e : E) (r : Rel np base pe env h) {o : POut} (q : pS g cp np (.asg t e) pe = some o) : SP np base pe env h o (evS g cf (.asg t e) env h) := by
  simp only [pS, Option.bind_eq_some_iff] at q
  obtain ⟨⟨w, p1⟩, q1, q2⟩ := q
  obtain ⟨v, h', h1, a1, a2, a3, a4, a5⟩ := sxE ck e _ _ _ _ _ _ _ r q1
  simp only [evS, a1, Option.bind_some]
  cases w with
  | d x =>
    obtain ⟨rfl, d, rfl⟩ := a5
    simp only [Option.map_eq_some_iff] at q2
    obtain ⟨p2, q3, rfl⟩ := q2
    obtain ⟨E1, f1, f2, f3, f4, f5⟩ := bind_ok t a3 d q3
    rw [a4.gc a2 d]
    simp only [f1, Option.map_some]
    exact ⟨_, rfl, f2, a4.trans ⟨Nat.le_refl _, fun _ _ _ => rfl, fun _ _ _ q => .inl q, fun q hq _ => f4 q hq⟩, True.intro⟩
  | own ys =>
    obtain ⟨rfl, rfl, d⟩ := a5
    cases t with
    | tup ts => cases q2
    | nm i =>
      cases q2
      rw [a4.gcL a2 d]
      simp only [bindT, Option.map_some]
      obtain ⟨b1, b2⟩ := a3.newOwn d i
      rw [a2] at b1 b2
      refine ⟨_, rfl, b1, ⟨by simp [a2], fun q hq n => ?_, fun q o hq e => ?_, fun q hq hl => ?_⟩, True.intro⟩
      · rw [List.getElem?_append_left (by rw [a2]; exact hq)]; exact a4.fr q hq n
      · rw [List.getElem?_append_left (by rw [a2]; exact hq)] at e; exact a4.dt q o hq e
      · rcases b2 q hq with z | z
        · omega
        · exact a4.ow q z hl
theorem s_setIx (ck : CallOk cf cp) (o ix e : E) (r : Rel np base pe env h) {ou : POut} (q : pS g cp np (.setIx o ix e) pe = some ou) : SP np base pe env h ou (evS g cf (.setIx o ix e) env h) := by
  cases o with
  | var j =>
    simp only [pS, Option.bind_eq_some_iff] at q
    obtain ⟨⟨x, p1⟩, q1, ⟨z, p2⟩, q2, q3⟩ := q
    obtain ⟨h1, a1, ad, a2, a3, a4⟩ := (sxE ck e).d r q1
    obtain ⟨h2, b1, bd, b2, b3, b4⟩ := (sxE ck ix).d a3 q2
    unfold setP at q3
    simp only at q3
    split at q3
    · rename_i xs hx
      split at q3
      · rename_i ys hs
        cases q3
        obtain ⟨p, c1, c2, c3, c4⟩ := b3.o j xs hx
        obtain ⟨d1, d2⟩ := set_rel c2 c3 ad hs
        obtain ⟨r2, t2⟩ := b3.setOwn hx c1 d2
        have t := (a4.trans b4).trans t2
        have hl : (h2.set p (.lst ys)).length = h.length := by simp [b2, a2]
        simp only [evS, a1, Option.bind_some, evE, c1, b1, d1, Option.map_some, t.gc hl (v := .non) (by simp)]
        exact ⟨_, rfl, r2, t, True.intro⟩
      · cases q3
    · cases q3
  | _ => simp only [pS] at q; cases q
theorem s_setSl (ck : CallOk cf cp) (o e : E) (lo hi : Int) (r : Rel np base pe env h) {ou : POut} (q : pS g cp np (.setSl o lo hi e) pe = some ou) : SP np base pe env h ou (evS g cf (.setSl o lo hi e) env h) := by
  cases o with
  | var j =>
    simp only [pS, Option.bind_eq_some_iff] at q
    obtain ⟨⟨w, p1⟩, q1, q3⟩ := q
    obtain ⟨v, h', h1, a1, a2, a3, a4, a5⟩ := sxE ck e _ _ _ _ _ _ _ r q1
    cases w with
    | d x => cases q3
    | own ys =>
      obtain ⟨rfl, rfl, dy⟩ := a5
      unfold setSlP at q3
      simp only at q3
      split at q3
      · rename_i xs hx
        split at q3
        · rename_i zs _ hs
          cases q3
          obtain ⟨p, c1, c2, c3, c4⟩ := a3.o j xs hx
          have hp : p < h1.length := (List.getElem?_eq_some_iff.mp c2).1
          obtain ⟨d1, d2⟩ := setSl_rel (h := h1 ++ [.lst ys]) (p := p) (q := h.length) (by rw [List.getElem?_append_left hp]; exact c2) (by rw [← a2]; simp) (by omega) c3 dy hs
          obtain ⟨r2, t2⟩ := a3.setOwn hx c1 d2
          have t := a4.trans t2
          have es : (h1 ++ [MO.lst ys]).set p (.lst zs) = h1.set p (.lst zs) ++ [.lst ys] := List.set_append_left _ _ hp
          have gg : MP.gc h (.non, h1.set p (.lst zs) ++ [.lst ys]) = (.non, h1.set p (.lst zs)) := gc_upd (by simp [a2]) (fun i o hi q => by
            rcases t.dt i o hi q with w | ⟨xs, rfl, dx⟩
            · exact .inl w
            · exact .inr (lt_dataAll dx)) (lt_data (by simp))
          simp only [evS, a1, Option.bind_some, evE, c1, d1, Option.map_some, es, gg]
          exact ⟨_, rfl, r2, t, True.intro⟩
        · cases q3
      · cases q3
  | _ => simp only [pS] at q; cases q
theorem s_aug (ck : CallOk cf cp) (i : Nat) (o : BOp) (e : E) (r : Rel np base pe env h) {ou : POut} (q : pS g cp np (.aug i o e) pe = some ou) : SP np base pe env h ou (evS g cf (.aug i o e) env h) := by
  simp only [pS] at q
  split at q
  · rename_i v hv
    simp only [Option.bind_eq_some_iff] at q
    obtain ⟨⟨x, p1⟩, q1, q3⟩ := q
    obtain ⟨h1, a1, ad, a2, a3, a4⟩ := (sxE ck e).d r q1
    obtain ⟨b1, b2⟩ := r.d i v hv
    unfold augP at q3
    simp only at q3
    split at q3
    · rename_i y hy
      cases q3
      obtain ⟨c1, c2⟩ := aug_rel (h := h1) b2 ad hy
      obtain ⟨E1, f1, f2, f3, f4, f5⟩ := bind_ok (.nm i) (pe1 := p1.set i (some (.d y))) a3 c2 (by simp only [bindP])
      simp only [bindT, Option.some.injEq] at f1
      subst f1
      simp only [evS, b1, a1, Option.bind_some, c1, Option.map_some, a4.gc a2 c2]
      exact ⟨_, rfl, f2, a4.trans ⟨Nat.le_refl _, fun _ _ _ => rfl, fun _ _ _ q => .inl q, fun q hq _ => f4 q hq⟩, True.intro⟩
    · cases q3
  · cases q
theorem s_ex (ck : CallOk cf cp) (e : E) (r : Rel np base pe env h) {ou : POut} (q : pS g cp np (.ex e) pe = some ou) : SP np base pe env h ou (evS g cf (.ex e) env h) := by
  simp only [pS, Option.map_eq_some_iff] at q
  obtain ⟨⟨w, p1⟩, q1, rfl⟩ := q
  obtain ⟨v, h', h1, a1, a2, a3, a4, a5⟩ := sxE ck e _ _ _ _ _ _ _ r q1
  simp only [evS, a1, Option.map_some]
  have gg : MP.gc h (.non, h') = (.non, h1) := by
    cases w with
    | d x => obtain ⟨_, _, rfl⟩ := a5; exact a4.gc a2 (by simp)
    | own ys =>
      obtain ⟨_, rfl, _⟩ := a5
      exact gc_upd a2 (fun i o hi q => by
        rcases a4.dt i o hi q with w | ⟨xs, rfl, dx⟩
        · exact .inl w
        · exact .inr (lt_dataAll dx)) (lt_data (by simp))
  rw [gg]
  exact ⟨_, rfl, a3, a4, True.intro⟩
theorem s_ret (ck : CallOk cf cp) (e : E) (r : Rel np base pe env h) {ou : POut} (q : pS g cp np (.ret e) pe = some ou) : SP np base pe env h ou (evS g cf (.ret e) env h) := by
  have other : (pX g cp e pe).map (fun x => (⟨.rt x.1, x.2⟩ : POut)) = some ou → SP np base pe env h ou (evS g cf (.ret e) env h) := fun q => by
    simp only [Option.map_eq_some_iff] at q
    obtain ⟨⟨w, p1⟩, q1, rfl⟩ := q
    obtain ⟨v, h', h1, a1, a2, a3, a4, a5⟩ := sxE ck e _ _ _ _ _ _ _ r q1
    simp only [evS, a1, Option.map_some]
    cases w with
    | d x =>
      obtain ⟨rfl, d, rfl⟩ := a5
      rw [a4.gc a2 d]
      exact ⟨_, rfl, a3, a4, rfl, d⟩
    | own ys =>
      obtain ⟨rfl, rfl, d⟩ := a5
      rw [a4.gcL a2 d]
      refine ⟨_, rfl, ?_, ⟨by simp [a2], fun q hq n => ?_, fun q o hq e => ?_, fun q hq hl => a4.ow q hq hl⟩, h.length, rfl, r.hb, by rw [← a2]; simp, d⟩
      · refine ⟨by have := a3.hb; simp; omega, a3.len, a3.d, fun j zs q => ?_, a3.inj⟩
        obtain ⟨p, a, b, c, e⟩ := a3.o j zs q
        exact ⟨p, a, by rw [List.getElem?_append_left (List.getElem?_eq_some_iff.mp b).1]; exact b, c, e⟩
      · rw [List.getElem?_append_left (by rw [a2]; exact hq)]; exact a4.fr q hq n
      · rw [List.getElem?_append_left (by rw [a2]; exact hq)] at e; exact a4.dt q o hq e
  cases e with
  | var i =>
    simp only [pS] at q
    split at q
    · rename_i x hx
      cases q
      obtain ⟨a, b⟩ := r.d i x hx
      simp only [evS, evE, a, Option.map_some, gc_same b]
      exact ⟨_, rfl, r, .refl, rfl, b⟩
    · rename_i xs hx
      split at q
      · rename_i hn
        cases q
        obtain ⟨p, a, b, c, d⟩ := r.o i xs hx
        have hp : p < h.length := (List.getElem?_eq_some_iff.mp b).1
        have gg : MP.gc h (.ref p, h) = (.ref p, h) := gc_self (by unfold MV.lt; exact hp)
        simp only [evS, evE, a, Option.map_some, gg]
        exact ⟨_, rfl, r, .refl, p, rfl, d hn, b, c⟩
      · cases q
    · cases q
  | _ => exact other (by simpa only [pS] using q)
theorem for_v {t : Tg} {k : IK} {es : List E} {body : List S} {i : Nat} {js : List Nat} {ou : POut} (hb : ∀ {np base : Nat} {pe : PEnv} {env : Env} {h : MH} {ou : POut}, Rel np base pe env h → pSs g cp np body pe = some ou → SP np base pe env h ou (evSs g cf body env h))
    (r : Rel np base pe env h) (hu : useV t k es pe (sasL body) = some (i, js)) (q : forV np i (fun e => pSs g cp np body e) js pe = some ou) : SP np base pe env h ou (evS g cf (.for_ t k es body) env h) := by
  obtain ⟨rfl, rfl, rfl, h1, h2⟩ := useV_ok hu
  obtain ⟨vs, a, b, c⟩ := vars_ev (g := g) (cf := cf) r js fun j hj => (h1 j hj).2
  have e1 : frzM h (.ref h.length, h ++ [.lst vs]) = some (.frl vs, h) := by
    unfold frzM
    have e : (h ++ [MO.lst vs])[h.length]? = some (.lst vs) := by simp
    simp only [e]
    rw [if_pos]
    · simp
    · exact ⟨Nat.le_refl _, by simp, fun i o hi q => .inl (by rwa [List.getElem?_append_left hi] at q), c⟩
  have e2 : MP.gc h (.frl vs, h) = (.frl vs, h) := gc_self (by unfold MV.lt; exact c)
  have e3 : evS g cf (.for_ (.nm i) .ex [.frz (.lst (js.map E.var))] body) env h = forL (.nm i) ⟨vs, none⟩ (fun e h => evSs g cf body e h) vs env h := by
    simp only [evS, evI, evEs, evE, a, Option.bind_some, e1, Option.map_some, itsG, e2, itsM]
  rw [e3]
  exact forV_ok rfl (fun pe env h o r q => hb r q) js vs pe env h ou (fun j hj => ⟨(h1 j hj).1.1, fun e h o z => keepSs body _ _ _ z (h1 j hj).1.2⟩) (fun e h o z => keepSs body _ _ _ z h2) r b q
mutual
theorem sS (ck : CallOk cf cp) : ∀ (s : S) {np base : Nat} {pe : PEnv} {env : Env} {h : MH} {ou : POut}, Rel np base pe env h → pS g cp np s pe = some ou → SP np base pe env h ou (evS g cf s env h)
  | .asg t e, _, _, _, _, _, _, r, q => s_asg ck t e r q
  | .setIx o i e, _, _, _, _, _, _, r, q => s_setIx ck o i e r q
  | .setSl o lo hi e, _, _, _, _, _, _, r, q => s_setSl ck o e lo hi r q
  | .aug i o e, _, _, _, _, _, _, r, q => s_aug ck i o e r q
  | .ex e, _, _, _, _, _, _, r, q => s_ex ck e r q
  | .ret e, _, _, _, _, _, _, r, q => s_ret ck e r q
  | .retN, _, _, _, _, h, _, r, q => by
    simp only [pS] at q
    cases q
    simp only [evS]
    exact ⟨_, rfl, r, .refl, rfl, by simp⟩
  | .ite c a b, _, _, _, _, _, _, r, q => by
    simp only [pS, Option.bind_eq_some_iff] at q
    obtain ⟨⟨x, p1⟩, q1, q2⟩ := q
    obtain ⟨h1, a1, ad, a2, a3, a4⟩ := tst_ok ck r q1
    simp only [evS, a1, Option.bind_some]
    split at q2
    · rename_i _ hb
      cases hb
      obtain ⟨o', k1, k2, k3, k4⟩ := sSs ck a a3 q2
      exact ⟨o', k1, k2, a4.trans k3, k4⟩
    · rename_i _ hb
      cases hb
      obtain ⟨o', k1, k2, k3, k4⟩ := sSs ck b a3 q2
      exact ⟨o', k1, k2, a4.trans k3, k4⟩
    · cases q2
  | .for_ t k es body, np, base, pe, env, h, ou, r, q => by
    simp only [pS] at q
    split at q
    · rename_i i js hu
      exact for_v (fun r q => sSs ck body r q) r hu q
    simp only [Option.bind_eq_some_iff] at q
    obtain ⟨⟨rs, p1⟩, q1, ⟨items, src⟩, q2, q3⟩ := q
    split at q3
    · rename_i hsrc
      simp only [Option.map_eq_some_iff] at q3
      obtain ⟨o1, q4, rfl⟩ := q3
      obtain ⟨vs, h1, a1, a2, a3, a4, a5⟩ := sxEs ck es _ _ _ _ _ _ _ r q1
      obtain ⟨st, b1, rfl, b3, b4⟩ := its_ok a3 a4 a2 a5 q2
      obtain ⟨m1, m2⟩ := moveOut_ok (src := src) a3
      have pin := src_pin a3 b4
      obtain ⟨o', k1, k2, k3, k4⟩ := forP_ok (t := t) (st := st) (body := fun e h => evSs g cf body e h) (fun pe env h o r q => sSs ck body r q) st.items (moveOut p1 src) env h1 o1 m1 pin b3 q4
      have t1 : Tr p1 env h1 o1.env o'.env o'.h := (⟨Nat.le_refl _, fun _ _ _ => rfl, fun _ _ _ q => .inl q, fun q hq _ => m2 q hq⟩ : Tr p1 env h1 (moveOut p1 src) env h1).trans k3
      have keep : ∀ i xs, src = some (i, xs) → o'.env[i]? = env[i]? := fun i xs hi => by
        subst hi
        have n : i ∉ slotsT t ++ sasL body := by simpa [srcOk] using hsrc
        have n' : i ∉ slotsT t ∧ i ∉ sasL body := by simpa using n
        exact forL_keep n'.1 (fun e h o z => keepSs body _ _ _ z n'.2) _ _ _ _ k1
      obtain ⟨e1, e2⟩ := moveIn_ok (env1 := o'.env) (h1 := o'.h) a3 b4 keep k2 (fun p ys hp => by
        obtain ⟨l1, l2, l3⟩ := pin p ys hp
        exact ⟨by rw [k3.fr p l1 l3]; exact l2, fun z => l3 (k3.ow p z l1)⟩)
      have t3 : Tr p1 env h1 (moveIn o1.env src) o'.env o'.h := ⟨t1.len, t1.fr, t1.dt, fun q hq hl => by
        rcases e2 q hq with z | z
        · exact t1.ow q z hl
        · exact z⟩
      simp only [evS, evI, a1, Option.bind_some, b1]
      exact ⟨o', k1, e1, a4.trans t3, k4⟩
    · cases q3
  | .while_ c body, _, _, _, _, _, _, r, q => by
    simp only [pS] at q
    simp only [evS]
    exact whileP_ok (fun pe env h b pe' r q => tst_ok ck r q) (fun pe env h o r q => sSs ck body r q) _ _ _ _ _ r q
  | .brk, _, _, _, _, _, _, r, q => by
    simp only [pS] at q
    cases q
    simp only [evS]
    exact ⟨_, rfl, r, .refl, True.intro⟩
  | .cont, _, _, _, _, _, _, r, q => by
    simp only [pS] at q
    cases q
    simp only [evS]
    exact ⟨_, rfl, r, .refl, True.intro⟩
  | .pass, _, _, _, _, _, _, r, q => by
    simp only [pS] at q
    cases q
    simp only [evS]
    exact ⟨_, rfl, r, .refl, True.intro⟩
theorem sSs (ck : CallOk cf cp) : ∀ (ss : List S) {np base : Nat} {pe : PEnv} {env : Env} {h : MH} {ou : POut}, Rel np base pe env h → pSs g cp np ss pe = some ou → SP np base pe env h ou (evSs g cf ss env h)
  | [], _, _, _, _, _, _, r, q => by
    simp only [pSs] at q
    cases q
    simp only [evSs]
    exact ⟨_, rfl, r, .refl, True.intro⟩
  | s :: ss, np, base, pe, env, h, ou, r, q => by
    simp only [pSs, Option.bind_eq_some_iff] at q
    obtain ⟨o1, q1, q2⟩ := q
    obtain ⟨o', k1, k2, k3, k4⟩ := sS ck s r q1
    simp only [evSs, k1, Option.bind_some]
    obtain ⟨fl, oe⟩ := o1
    obtain ⟨fl', oe', oh'⟩ := o'
    cases fl with
    | nx =>
      cases fl' <;> first | (exact k4.elim) | skip
      obtain ⟨o2, l1, l2, l3, l4⟩ := sSs ck ss k2 q2
      exact ⟨o2, l1, l2, k3.trans l3, l4⟩
    | bk =>
      cases fl' <;> first | (exact k4.elim) | skip
      cases q2
      exact ⟨_, rfl, k2, k3, True.intro⟩
    | ct =>
      cases fl' <;> first | (exact k4.elim) | skip
      cases q2
      exact ⟨_, rfl, k2, k3, True.intro⟩
    | rt w =>
      cases q2
      cases fl' <;> first | (cases w <;> exact k4.elim) | skip
      exact ⟨_, rfl, k2, k3, k4⟩
end
end
end MP
namespace MP
open PySem
section
variable {h h1 : MH}
theorem ARel.len : ∀ {args : List PV} {vs : List MV}, ARel h args vs → vs.length = args.length
  | [], [], _ => rfl
  | .d _ :: as, v :: vs, e => by simp [ARel.len e.2]
  | .own _ :: as, v :: vs, e => by simp [ARel.len e.2]
  | [], _ :: _, e => e.elim
  | .d _ :: _, [], e => e.elim
  | .own _ :: _, [], e => e.elim
theorem ARel.d : ∀ {args : List PV} {vs : List MV} {i : Nat} {x : MV}, ARel h args vs → args[i]? = some (.d x) → vs[i]? = some x ∧ x.data = true
  | [], _, _, _, _, q => by simp at q
  | .d u :: as, v :: vs, 0, x, e, q => by
    simp at q; subst q
    obtain ⟨⟨rfl, d⟩, _⟩ := e
    exact ⟨rfl, d⟩
  | .own u :: as, v :: vs, 0, x, e, q => by simp at q
  | .d u :: as, v :: vs, i + 1, x, e, q => by simpa using ARel.d e.2 (by simpa using q)
  | .own u :: as, v :: vs, i + 1, x, e, q => by simpa using ARel.d e.2 (by simpa using q)
  | .d _ :: _, [], _, _, e, _ => e.elim
  | .own _ :: _, [], _, _, e, _ => e.elim
theorem ARel.o : ∀ {args : List PV} {vs : List MV} {i : Nat} {x : List MV}, ARel h args vs → args[i]? = some (.own x) → ∃ p : Nat, vs[i]? = some (.ref p) ∧ h[p]? = some (.lst x) ∧ dataAll x = true ∧ p ∈ refsOf args vs
  | [], _, _, _, _, q => by simp at q
  | .d u :: as, v :: vs, 0, x, e, q => by simp at q
  | .own u :: as, v :: vs, 0, x, e, q => by
    simp at q; subst q
    obtain ⟨⟨p, rfl, a, b⟩, _⟩ := e
    exact ⟨p, rfl, a, b, by simp [refsOf]⟩
  | .d u :: as, v :: vs, i + 1, x, e, q => by
    obtain ⟨p, a, b, c, d⟩ := ARel.o e.2 (by simpa using q)
    exact ⟨p, by simpa using a, b, c, by simpa [refsOf] using d⟩
  | .own u :: as, v :: vs, i + 1, x, e, q => by
    obtain ⟨p, a, b, c, d⟩ := ARel.o e.2 (by simpa using q)
    obtain ⟨⟨p', rfl, _, _⟩, _⟩ := e
    exact ⟨p, by simpa using a, b, c, by simp [refsOf, d]⟩
  | .d _ :: _, [], _, _, e, _ => e.elim
  | .own _ :: _, [], _, _, e, _ => e.elim
theorem ARel.inj : ∀ {args : List PV} {vs : List MV} {i j p : Nat} {x y : List MV}, ARel h args vs → (refsOf args vs).Nodup → args[i]? = some (.own x) → args[j]? = some (.own y) → vs[i]? = some (.ref p) → vs[j]? = some (.ref p) → i = j
  | [], _, _, _, _, _, _, _, _, q, _, _, _ => by simp at q
  | .d u :: as, v :: vs, 0, _, _, _, _, e, n, q, _, _, _ => by simp at q
  | .d u :: as, v :: vs, _, 0, _, _, _, e, n, _, q, _, _ => by simp at q
  | .d u :: as, v :: vs, i + 1, j + 1, p, x, y, e, n, q1, q2, q3, q4 => by
    rw [ARel.inj (i := i) (j := j) e.2 (by simpa [refsOf] using n) (by simpa using q1) (by simpa using q2) (by simpa using q3) (by simpa using q4)]
  | .own u :: as, v :: vs, 0, 0, p, x, y, e, n, q1, q2, q3, q4 => rfl
  | .own u :: as, v :: vs, 0, j + 1, p, x, y, e, n, q1, q2, q3, q4 => by
    obtain ⟨⟨p', rfl, _, _⟩, e2⟩ := e
    simp at q3; subst q3
    obtain ⟨p2, a, _, _, d⟩ := ARel.o e2 (i := j) (by simpa using q2)
    have : p2 = p' := by
      have q4 : vs[j]? = some (.ref p') := by simpa using q4
      rw [q4] at a; cases a; rfl
    rw [this] at d
    simp only [refsOf] at n
    exact absurd d (List.nodup_cons.mp n).1
  | .own u :: as, v :: vs, i + 1, 0, p, x, y, e, n, q1, q2, q3, q4 => by
    obtain ⟨⟨p', rfl, _, _⟩, e2⟩ := e
    simp at q4; subst q4
    obtain ⟨p2, a, _, _, d⟩ := ARel.o e2 (i := i) (by simpa using q1)
    have : p2 = p' := by
      have q3 : vs[i]? = some (.ref p') := by simpa using q3
      rw [q3] at a; cases a; rfl
    rw [this] at d
    simp only [refsOf] at n
    exact absurd d (List.nodup_cons.mp n).1
  | .own u :: as, v :: vs, i + 1, j + 1, p, x, y, e, n, q1, q2, q3, q4 => by
    obtain ⟨⟨p', rfl, _, _⟩, e2⟩ := e
    simp only [refsOf] at n
    rw [ARel.inj (i := i) (j := j) e2 (List.nodup_cons.mp n).2 (by simpa using q1) (by simpa using q2) (by simpa using q3) (by simpa using q4)]
  | .d _ :: _, [], _, _, _, _, _, e, _, _, _, _, _ => e.elim
  | .own _ :: _, [], _, _, _, _, _, e, _, _, _, _, _ => e.elim
theorem get_start {α : Type} {as : List α} {n i : Nat} {x : α} (q : (as.map some ++ List.replicate n (none : Option α))[i]? = some (some x)) : as[i]? = some x := by
  by_cases hi : i < as.length
  · rw [List.getElem?_append_left (by simpa using hi), List.getElem?_map] at q
    cases ha : as[i]? with
    | none => rw [ha] at q; cases q
    | some y => rw [ha] at q; cases q; rfl
  · rw [List.getElem?_append_right (by simpa using hi), List.getElem?_replicate] at q
    split at q <;> cases q
theorem start_get {α : Type} {as : List α} {n i : Nat} {x : α} (q : as[i]? = some x) : (as.map some ++ List.replicate n (none : Option α))[i]? = some (some x) := by
  have hi := (List.getElem?_eq_some_iff.mp q).1
  rw [List.getElem?_append_left (by simpa using hi), List.getElem?_map, q]; rfl
theorem outs_ok {np base : Nat} {oe : PEnv} {E0 E1 : Env} {ns : List Nat} (r : Rel np base oe E1 h1) (hk : ∀ j, j ∉ ns → E1[j]? = E0[j]?) : ∀ {args : List PV} {vs : List MV} {j0 : Nat} {os : List (List MV)}, ARel h args vs → okArgs ns j0 args = true → outsP oe j0 args = some os →
    (∀ m v, vs[m]? = some v → E0[j0 + m]? = some (some v)) → Outs h1 (refsOf args vs) os ∧ ∀ p ∈ refsOf args vs, p < h.length
  | [], [], j0, os, _, _, q, _ => by
    simp only [outsP] at q
    cases q
    exact ⟨True.intro, fun p hp => by simp [refsOf] at hp⟩
  | .d _ :: as, v :: vs, j0, os, e, ok, q, hv => by
    simp only [outsP] at q
    simp only [okArgs] at ok
    exact outs_ok r hk (args := as) (vs := vs) e.2 ok q fun m v hm => by rw [Nat.add_assoc, Nat.add_comm 1 m]; exact hv (m + 1) v (by simpa using hm)
  | .own xs :: as, v :: vs, j0, os, e, ok, q, hv => by
    simp only [outsP] at q
    simp only [okArgs, Bool.and_eq_true, Bool.not_eq_true', List.contains_eq_mem, decide_eq_false_iff_not] at ok
    split at q
    · rename_i ys hy
      simp only [Option.map_eq_some_iff] at q
      obtain ⟨os', q1, rfl⟩ := q
      obtain ⟨⟨p, rfl, a, b⟩, e2⟩ := e
      obtain ⟨k1, k2⟩ := outs_ok r hk (args := as) (vs := vs) e2 ok.2 q1 fun m v hm => by rw [Nat.add_assoc, Nat.add_comm 1 m]; exact hv (m + 1) v (by simpa using hm)
      obtain ⟨p', c1, c2, c3, _⟩ := r.o j0 ys hy
      have h0 : E0[j0]? = some (some (.ref p)) := hv 0 _ rfl
      rw [hk j0 ok.1, h0] at c1
      cases c1
      refine ⟨⟨⟨c2, c3⟩, k1⟩, fun q hq => ?_⟩
      rcases List.mem_cons.mp hq with rfl | z
      · exact (List.getElem?_eq_some_iff.mp a).1
      · exact k2 q z
    · cases q
  | [], _ :: _, _, _, e, _, _, _ => e.elim
  | .d _ :: _, [], _, _, e, _, _, _ => e.elim
  | .own _ :: _, [], _, _, e, _, _, _ => e.elim
theorem Outs.take {n : Nat} : ∀ {ps : List Nat} {os : List (List MV)}, Outs h1 ps os → (∀ p ∈ ps, p < n) → Outs (h1.take n) ps os
  | [], [], _, _ => True.intro
  | p :: ps, xs :: os, e, k => ⟨⟨by rw [List.getElem?_take_of_lt (k p List.mem_cons_self)]; exact e.1.1, e.1.2⟩, e.2.take fun q hq => k q (List.mem_cons_of_mem _ hq)⟩
  | [], _ :: _, e, _ => e.elim
  | _ :: _, [], e, _ => e.elim
end
theorem call_ok (g : Mod) (hand : Hand) (hh : ∀ k, CallOk (run g k) (hand k)) : ∀ k, CallOk (run g k) (prun g hand k)
  | 0 => fun f args res outs q => by simp only [prun] at q; cases q
  | k + 1 => by
    intro f args res outs q vs h ar nd
    simp only [prun] at q
    split at q
    · rename_i r hr
      cases q
      exact hh _ _ _ _ _ hr vs h ar nd
    split at q
    · cases q
    · rename_i i hi
      unfold prunF at q
      split at q
      · rename_i hc
        obtain ⟨hl, hok⟩ := hc
        simp only [Option.bind_eq_some_iff] at q
        obtain ⟨o, q1, q2⟩ := q
        have lv := ar.len
        have r0 : Rel i.np h.length (args.map some ++ List.replicate (i.names.length - args.length) none) (vs.map some ++ List.replicate (i.names.length - vs.length) none) h := by
          refine ⟨Nat.le_refl _, by simp [lv], fun j v q => ?_, fun j xs q => ?_, fun a b xs ys p e1 e2 e3 e4 => ?_⟩
          · obtain ⟨a, b⟩ := ar.d (get_start q)
            exact ⟨start_get a, b⟩
          · have q := get_start q
            obtain ⟨p, a, b, c, _⟩ := ar.o q
            have := (List.getElem?_eq_some_iff.mp q).1
            exact ⟨p, start_get a, b, c, fun z => by omega⟩
          · exact ar.inj nd (get_start e1) (get_start e2) (get_start e3) (get_start e4)
        obtain ⟨o', k1, k2, k3, k4⟩ := sSs (call_ok g hand hh k) i.body r0 q1
        have own0 : ∀ q, Own (args.map some ++ List.replicate (i.names.length - args.length) none) (vs.map some ++ List.replicate (i.names.length - vs.length) none) q → q ∈ refsOf args vs := fun q ⟨j, xs, a, b⟩ => by
          obtain ⟨p, c1, _, _, c4⟩ := ar.o (get_start a)
          have := get_start b
          rw [c1] at this; cases this
          exact c4
        have outs_k : ∀ os, outsP o.env 0 args = some os → Outs (o'.h.take h.length) (refsOf args vs) os := fun os hos => by
          obtain ⟨a, b⟩ := outs_ok (h := h) (E0 := vs.map some ++ List.replicate (i.names.length - vs.length) none) k2 (fun j hj => keepSs i.body _ _ _ k1 hj) ar hok hos (fun m v hm => by rw [Nat.zero_add]; exact start_get hm)
          exact a.take b
        have ht : (o'.h.take h.length).length = h.length := by rw [List.length_take]; have := k3.len; omega
        have fr : ∀ q : Nat, q < h.length → q ∉ refsOf args vs → (o'.h.take h.length)[q]? = h[q]? := fun q hq n => by
          rw [List.getElem?_take_of_lt hq]; exact k3.fr q hq fun z => n (own0 q z)
        have old : ∀ (i : Nat) (o : MO), i < h.length → o'.h[i]? = some o → h[i]? = some o ∨ o.lt h.length := fun i o hi q => by
          rcases k3.dt i o hi q with w | ⟨xs, rfl, dx⟩
          · exact .inl w
          · exact .inr (lt_dataAll dx)
        have gd : ∀ v : MV, v.data = true → gc h (v, o'.h) = (v, o'.h.take h.length) := fun v d => by
          unfold gc
          rw [if_pos ⟨k3.len, old⟩, if_pos (lt_data d)]
        have rl : vs.length = i.np := by rw [lv, hl]
        simp only [run, hi, if_pos rl, k1, Option.bind_some]
        obtain ⟨fl, oe⟩ := o
        obtain ⟨fl', oe', oh'⟩ := o'
        cases fl with
        | nx =>
          cases fl' <;> first | (exact k4.elim) | skip
          simp only [Option.map_eq_some_iff] at q2
          obtain ⟨os, q3, q4⟩ := q2
          cases q4
          simp only
          rw [gd .non (by simp)]
          exact ⟨_, _, _, rfl, ht, fr, outs_k _ q3, rfl, by simp, rfl⟩
        | bk => cases q2
        | ct => cases q2
        | rt w =>
          cases fl' <;> first | (cases w <;> exact k4.elim) | skip
          rename_i v
          simp only [Option.map_eq_some_iff] at q2
          obtain ⟨os, q3, q4⟩ := q2
          cases q4
          simp only
          cases w with
          | d x =>
            obtain ⟨rfl, d⟩ := k4
            have e1 : (if i.icy = true then iceP (.d v) else .d v) = .d v := by split <;> rfl
            rw [e1]
            have e2 : (if i.icy = true then frzM h (v, oh') else some (gc h (v, oh'))) = some (v, oh'.take h.length) := by
              split
              · rw [frz_data d, gd v d]
              · rw [gd v d]
            rw [e2]
            exact ⟨_, _, _, rfl, ht, fr, outs_k _ q3, rfl, d, rfl⟩
          | own xs =>
            obtain ⟨p, rfl, hp, hx, d⟩ := k4
            split
            · have e2 : frzM h (.ref p, oh') = some (.frl xs, oh'.take h.length) := by
                unfold frzM
                simp only at hx
                simp only [hx]
                rw [if_pos ⟨hp, k3.len, old, lt_dataAll d⟩]
              rw [e2]
              exact ⟨_, _, _, rfl, ht, fr, outs_k _ q3, rfl, by simpa using d, rfl⟩
            · have e2 : gc h (.ref p, oh') = (.ref h.length, oh'.take h.length ++ [.lst xs]) := by
                unfold gc
                simp only at hx
                rw [if_pos ⟨k3.len, old⟩, if_neg (by unfold MV.lt; omega)]
                simp only [hx]
                rw [if_pos (show MO.lt h.length (.lst xs) from lt_dataAll d)]
              rw [e2]
              exact ⟨_, _, _, rfl, ht, fr, outs_k _ q3, rfl, rfl, d⟩
      · cases q
theorem noHand_ok {g : Mod} (k : Nat) : CallOk (run g k) (noHand k) := fun f args res outs q => by cases q
/-- the law -/
theorem law_run {g : Mod} {hand : Hand} (hh : ∀ k, CallOk (run g k) (hand k)) {k : Nat} {ns : List Int} (e : prun g hand k "law" [.d (scriptM ns)] = some (.d (.bl true), [])) : ∃ h', run g k "law" [scriptM ns] [] = some (.bl true, h') := by
  have d : (scriptM ns).data = true := by simp [scriptM]
  obtain ⟨v, h', h1, a, _, _, _, b, _⟩ := call_ok g hand hh k _ _ _ _ e [scriptM ns] [] ⟨⟨rfl, d⟩, True.intro⟩ List.nodup_nil
  exact ⟨h', by rw [a, b]⟩
end MP
namespace MP
open PySem
/-- a mark that hangs on x: simp leaves alone what it hangs on -/
structure Tk {α : Sort u} (x : α) : Type where
  mk ::
section
variable {α β γ : Type}
def bd (f : α → Option β) (t : Tk f) (a : Option α) : Option β := a.bind f
def mp (f : α → β) (t : Tk f) (a : Option α) : Option β := a.map f
@[simp] theorem bd_some (f : α → Option β) (t : Tk f) (x : α) : bd f t (some x) = f x := rfl
@[simp] theorem mp_some (f : α → β) (t : Tk f) (x : α) : mp f t (some x) = some (f x) := rfl
@[simp] theorem bd_none (f : α → Option β) (t : Tk f) : bd f t none = none := rfl
@[simp] theorem mp_none (f : α → β) (t : Tk f) : mp f t none = none := rfl
def Ok (Q : α → Prop) (t : Tk Q) (r : Option α) : Prop := ∃ a, r = some a ∧ Q a
@[simp] theorem Ok_some (a : α) (Q : α → Prop) (t : Tk Q) : Ok Q t (some a) = Q a := by
  apply propext
  exact ⟨fun ⟨b, e, q⟩ => by cases e; exact q, fun q => ⟨a, rfl, q⟩⟩
theorem Ok_none (Q : α → Prop) (t : Tk Q) : Ok Q t none = False := by
  apply propext
  exact ⟨fun ⟨b, e, q⟩ => (by cases e), fun q => q.elim⟩
@[simp] theorem Ok_bind (a : Option α) (f : α → Option β) (t' : Tk f) (Q : β → Prop) (t : Tk Q) : Ok Q t (bd f t' a) = Ok (fun x => Ok Q .mk (f x)) .mk a := by
  apply propext
  cases a with
  | none => simp only [bd_none, Ok_none]
  | some x => simp only [bd_some, Ok_some]
@[simp] theorem Ok_map (a : Option α) (f : α → β) (t' : Tk f) (Q : β → Prop) (t : Tk Q) : Ok Q t (mp f t' a) = Ok (fun x => Q (f x)) .mk a := by
  apply propext
  cases a with
  | none => simp only [mp_none, Ok_none]
  | some x => simp only [mp_some, Ok_some]
theorem Ok.imp {a : Option α} {P Q : α → Prop} {t : Tk P} {t' : Tk Q} (h : Ok P t a) (k : ∀ x, P x → Q x) : Ok Q t' a := let ⟨x, e, p⟩ := h; ⟨x, e, k x p⟩
theorem eq_of_ok {a : Option α} {r : α} (h : Ok (fun x => x = r) .mk a) : a = some r := let ⟨x, e, q⟩ := h; by rw [e, q]
theorem ok_of_eq {a : Option α} {r : α} {Q : α → Prop} {t : Tk Q} (h : a = some r) (q : Q r) : Ok Q t a := ⟨r, h, q⟩
/-- what simp leaves as it is -/
structure Hid' (p : Prop) (t : Tk p) : Prop where
  mk :: (h : p)
abbrev Hid (p : Prop) : Prop := Hid' p .mk
end
def sel {α : Type} (a b : α) (t : Tk a) (t' : Tk b) (c : Bool) : α := if c = true then a else b
@[simp] theorem sel_t {α : Type} (a b : α) (t t') : sel a b t t' true = a := rfl
@[simp] theorem sel_f {α : Type} (a b : α) (t t') : sel a b t t' false = b := rfl
def ab (i : Int) : Int := if i < 0 then -i else i
def mx (i j : Int) : Int := if j > i then j else i
def mn (i j : Int) : Int := if j < i then j else i
@[simp] theorem mx1 (m : Int) : 0 < mx m 1 := by unfold mx; split <;> omega
@[simp] theorem mx2 (m : Int) : 0 < mx m 2 := by unfold mx; split <;> omega
theorem log_small {n : Nat} (h : n ≤ 16777216) : n.log2 < 9000 := by
  by_cases h0 : n = 0
  · subst h0; decide
  · exact Nat.lt_of_lt_of_le ((Nat.log2_lt h0).mpr (show n < 2 ^ 25 by omega)) (by decide)
theorem mx2_log {m : Int} (h : m ≤ 16777216) : (mx m 2).natAbs.log2 < 9000 := by
  apply log_small
  unfold mx; split <;> omega
def finP (i : FnI) (args : List PV) (o : POut) : Option (PV × List (List MV)) := match o.fl with
    | .nx => mp (fun os => (.d .non, os)) .mk (outsP o.env 0 args)
    | .rt w => mp (fun os => (if i.icy = true then iceP w else w, os)) .mk (outsP o.env 0 args)
    | _ => none
theorem prun_d {g : Mod} {hand : Hand} {k : Nat} {f : Str} {i : FnI} {args : List PV} (hf : g.fns.lookup f = some i) (hh : hand (k + 1) f args = none) (hl : args.length = i.np) (ho : okArgs (sasL i.body) 0 args = true) :
    prun g hand (k + 1) f args = bd (finP i args) .mk (pSs g (prun g hand k) i.np i.body (args.map some ++ List.replicate (i.names.length - args.length) none)) := by
  simp only [prun, hh, hf, prunF]
  rw [if_pos ⟨hl, ho⟩]
  rfl
@[simp] theorem finP_rt (i : FnI) (args : List PV) (w : PV) (env : PEnv) : finP i args ⟨.rt w, env⟩ = mp (fun os => (if i.icy = true then iceP w else w, os)) .mk ((outsP env 0 args)) := rfl
@[simp] theorem finP_nx (i : FnI) (args : List PV) (env : PEnv) : finP i args ⟨.nx, env⟩ = mp (fun os => (.d .non, os)) .mk ((outsP env 0 args)) := rfl
@[simp] theorem outsP_nil (env : PEnv) (j : Nat) : outsP env j [] = some [] := rfl
@[simp] theorem outsP_d (env : PEnv) (j : Nat) (v : MV) (as : List PV) : outsP env j (.d v :: as) = outsP env (j + 1) as := rfl
@[simp] theorem outsP_o (env : PEnv) (j : Nat) (v : List MV) (as : List PV) : outsP env j (.own v :: as) = match env[j]? with
    | some (some (.own xs)) => mp (fun r => xs :: r) .mk (outsP env (j + 1) as)
    | _ => none := rfl
@[simp] theorem iceP_d (v : MV) : iceP (.d v) = .d v := rfl
@[simp] theorem iceP_o (v : List MV) : iceP (.own v) = .d (.frl v) := rfl
section
variable (ev : Option (PV × PEnv)) (env : PEnv)
@[simp] theorem rdE_var (i : Nat) : rdE (.var i) ev env = match env[i]? with
    | some (some _) => some (.slot i, env)
    | _ => none := rfl
@[simp] theorem rdE_non : rdE .non ev env = mp (fun r => (Rd.val r.1, r.2)) .mk (dOf ev) := rfl
@[simp] theorem rdE_bl (b) : rdE (.bl b) ev env = mp (fun r => (Rd.val r.1, r.2)) .mk (dOf ev) := rfl
@[simp] theorem rdE_int (b) : rdE (.int b) ev env = mp (fun r => (Rd.val r.1, r.2)) .mk (dOf ev) := rfl
@[simp] theorem rdE_str (b) : rdE (.str b) ev env = mp (fun r => (Rd.val r.1, r.2)) .mk (dOf ev) := rfl
@[simp] theorem rdE_glob (b) : rdE (.glob b) ev env = mp (fun r => (Rd.val r.1, r.2)) .mk (dOf ev) := rfl
@[simp] theorem rdE_tup (b) : rdE (.tup b) ev env = mp (fun r => (Rd.val r.1, r.2)) .mk (dOf ev) := rfl
@[simp] theorem rdE_lst (b) : rdE (.lst b) ev env = mp (fun r => (Rd.val r.1, r.2)) .mk (dOf ev) := rfl
@[simp] theorem rdE_bin (o a b) : rdE (.bin o a b) ev env = mp (fun r => (Rd.val r.1, r.2)) .mk (dOf ev) := rfl
@[simp] theorem rdE_neg (b) : rdE (.neg b) ev env = mp (fun r => (Rd.val r.1, r.2)) .mk (dOf ev) := rfl
@[simp] theorem rdE_cmp (o a b) : rdE (.cmp o a b) ev env = mp (fun r => (Rd.val r.1, r.2)) .mk (dOf ev) := rfl
@[simp] theorem rdE_chain (o p a b c) : rdE (.chain o p a b c) ev env = mp (fun r => (Rd.val r.1, r.2)) .mk (dOf ev) := rfl
@[simp] theorem rdE_and (a b) : rdE (.and a b) ev env = mp (fun r => (Rd.val r.1, r.2)) .mk (dOf ev) := rfl
@[simp] theorem rdE_or (a b) : rdE (.or a b) ev env = mp (fun r => (Rd.val r.1, r.2)) .mk (dOf ev) := rfl
@[simp] theorem rdE_not (a) : rdE (.not a) ev env = mp (fun r => (Rd.val r.1, r.2)) .mk (dOf ev) := rfl
@[simp] theorem rdE_ife (a b c) : rdE (.ife a b c) ev env = mp (fun r => (Rd.val r.1, r.2)) .mk (dOf ev) := rfl
@[simp] theorem rdE_idx (a b) : rdE (.idx a b) ev env = mp (fun r => (Rd.val r.1, r.2)) .mk (dOf ev) := rfl
@[simp] theorem rdE_slice (a b c) : rdE (.slice a b c) ev env = mp (fun r => (Rd.val r.1, r.2)) .mk (dOf ev) := rfl
@[simp] theorem rdE_call (a b) : rdE (.call a b) ev env = mp (fun r => (Rd.val r.1, r.2)) .mk (dOf ev) := rfl
@[simp] theorem rdE_bi (a b) : rdE (.bi a b) ev env = mp (fun r => (Rd.val r.1, r.2)) .mk (dOf ev) := rfl
@[simp] theorem rdE_isi (a b) : rdE (.isi a b) ev env = mp (fun r => (Rd.val r.1, r.2)) .mk (dOf ev) := rfl
@[simp] theorem rdE_meth (a b c) : rdE (.meth a b c) ev env = mp (fun r => (Rd.val r.1, r.2)) .mk (dOf ev) := rfl
@[simp] theorem rdE_comp (a b c d e f) : rdE (.comp a b c d e f) ev env = mp (fun r => (Rd.val r.1, r.2)) .mk (dOf ev) := rfl
@[simp] theorem rdE_lrng (a b) : rdE (.lrng a b) ev env = mp (fun r => (Rd.val r.1, r.2)) .mk (dOf ev) := rfl
@[simp] theorem rdE_back (a) : rdE (.back a) ev env = mp (fun r => (Rd.val r.1, r.2)) .mk (dOf ev) := rfl
@[simp] theorem rdE_gflt (a b) : rdE (.gflt a b) ev env = mp (fun r => (Rd.val r.1, r.2)) .mk (dOf ev) := rfl
@[simp] theorem rdE_lenset (a) : rdE (.lenset a) ev env = mp (fun r => (Rd.val r.1, r.2)) .mk (dOf ev) := rfl
@[simp] theorem rdE_frz (a) : rdE (.frz a) ev env = mp (fun r => (Rd.val r.1, r.2)) .mk (dOf ev) := rfl
@[simp] theorem dOf_d (v : MV) (e : PEnv) : dOf (some (.d v, e)) = some (v, e) := rfl
@[simp] theorem dOf_bind {α : Type} (a : Option α) (f : α → Option (PV × PEnv)) (t) : dOf (bd f t a) = bd (fun x => dOf (f x)) .mk a := by cases a <;> rfl
@[simp] theorem dOf_map {α : Type} (a : Option α) (f : α → PV × PEnv) (t) : dOf (mp f t a) = bd (fun x => dOf (some (f x))) .mk a := by cases a <;> rfl
@[simp] theorem dOf_sel (a b : Option (PV × PEnv)) (t t' c) : dOf (sel a b t t' c) = sel (dOf a) (dOf b) .mk .mk c := by cases c <;> rfl
@[simp] theorem rdV_val (v : MV) : rdV env (.val v) = some v := rfl
@[simp] theorem rdV_slot (i : Nat) : rdV env (.slot i) = match env[i]? with
    | some (some (.d v)) => some v
    | some (some (.own xs)) => some (.frl xs)
    | _ => none := rfl
@[simp] theorem dV_val (v : MV) : dV env (.val v) = some v := rfl
@[simp] theorem dV_slot (i : Nat) : dV env (.slot i) = match env[i]? with
    | some (some (.d v)) => some v
    | _ => none := rfl
@[simp] theorem liftPV_d (v : MV) : liftPV env (some (v, [])) = some (.d v, env) := rfl
@[simp] theorem liftPV_l (xs : List MV) : liftPV env (some (.ref 0, [.lst xs])) = some (.own xs, env) := rfl
@[simp] theorem liftPV_bind {α : Type} (a : Option α) (f : α → R) (t) : liftPV env (bd f t a) = bd (fun x => liftPV env (f x)) .mk a := by cases a <;> rfl
@[simp] theorem liftPV_map {α : Type} (a : Option α) (f : α → MV × MH) (t) : liftPV env (mp f t a) = bd (fun x => liftPV env (some (f x))) .mk a := by cases a <;> rfl
@[simp] theorem rdVs_nil : rdVs env [] = some [] := rfl
@[simp] theorem rdVs_cons (r : Rd) (rs : List Rd) : rdVs env (r :: rs) = bd (fun v => mp (fun vs => v :: vs) .mk ((rdVs env rs))) .mk ((rdV env r)) := rfl
@[simp] theorem dVs_nil : dVs env [] = some [] := rfl
@[simp] theorem dVs_cons (r : Rd) (rs : List Rd) : dVs env (r :: rs) = bd (fun v => mp (fun vs => v :: vs) .mk ((dVs env rs))) .mk ((dV env r)) := rfl
@[simp] theorem argsP_nil : argsP env [] = some (([], []), env) := rfl
@[simp] theorem argsP_val (v : MV) (rs : List Rd) : argsP env (.val v :: rs) = mp (fun q => ((.d v :: q.1.1, q.1.2), q.2)) .mk ((argsP env rs)) := rfl
@[simp] theorem argsP_slot (i : Nat) (rs : List Rd) : argsP env (.slot i :: rs) = match env[i]? with
    | some (some (.d v)) => mp (fun q => ((PV.d v :: q.1.1, q.1.2), q.2)) .mk (argsP env rs)
    | some (some (.own xs)) => mp (fun q => ((PV.own xs :: q.1.1, i :: q.1.2), q.2)) .mk (argsP (env.set i none) rs)
    | _ => none := rfl
@[simp] theorem backP_nil : backP env [] [] = some env := rfl
@[simp] theorem backP_cons (i : Nat) (is : List Nat) (xs : List MV) (xss : List (List MV)) : backP env (i :: is) (xs :: xss) = backP (env.set i (some (.own xs))) is xss := rfl
@[simp] theorem itsP_ex (r : Rd) : itsP .ex env [r] = itsX env r := rfl
@[simp] theorem itsX_val (v : MV) : itsX env (.val v) = mp (fun xs => (xs, none)) .mk ((seqM [] v)) := rfl
@[simp] theorem itsX_slot (i : Nat) : itsX env (.slot i) = match env[i]? with
    | some (some (.d v)) => mp (fun xs => (xs, none)) .mk (seqM [] v)
    | some (some (.own xs)) => some (xs, some (i, xs))
    | _ => none := rfl
@[simp] theorem itsP_rng1 (rs : List Rd) : itsP .rng1 env rs = bd (fun vs => mp (fun st => (st.items, none)) .mk ((itsM .rng1 [] vs))) .mk ((dVs env rs)) := rfl
@[simp] theorem itsP_rng2 (rs : List Rd) : itsP .rng2 env rs = bd (fun vs => mp (fun st => (st.items, none)) .mk ((itsM .rng2 [] vs))) .mk ((dVs env rs)) := rfl
@[simp] theorem itsP_enum (rs : List Rd) : itsP .enum env rs = bd (fun vs => mp (fun st => (st.items, none)) .mk ((itsM .enum [] vs))) .mk ((dVs env rs)) := rfl
@[simp] theorem moveOut_n : moveOut env none = env := rfl
@[simp] theorem moveOut_s (i : Nat) (xs : List MV) : moveOut env (some (i, xs)) = env.set i none := rfl
@[simp] theorem moveIn_n : moveIn env none = env := rfl
@[simp] theorem moveIn_s (i : Nat) (xs : List MV) : moveIn env (some (i, xs)) = env.set i (some (.own xs)) := rfl
@[simp] theorem srcOk_n (ns : List Nat) : srcOk ns none = true := rfl
@[simp] theorem bindP_nm (i : Nat) (v : MV) : bindP (.nm i) v env = some (env.set i (some (.d v))) := by simp only [bindP]
@[simp] theorem bindP_tup (ts : List Tg) (xs : List MV) : bindP (.tup ts) (.tup xs) env = bindPs ts xs env := by simp only [bindP]
@[simp] theorem bindPs_nil : bindPs [] [] env = some env := by simp only [bindPs, bd]
@[simp] theorem bindPs_cons (t : Tg) (ts : List Tg) (x : MV) (xs : List MV) : bindPs (t :: ts) (x :: xs) env = bd (fun e => bindPs ts xs e) .mk ((bindP t x env)) := by simp only [bindPs, bd]
end
section
variable (h : MH) (x y z l u : MV) (xs ys : List MV)
@[simp] theorem negM_int (i : Int) : negM (.int i, h) = some (.int (-i), h) := rfl
@[simp] theorem add_int (i j : Int) : binM .add h (.int i) (.int j) = some (.int (i + j), h) := rfl
@[simp] theorem sub_int (i j : Int) : binM .sub h (.int i) (.int j) = some (.int (i - j), h) := rfl
@[simp] theorem mul_r {i j : Int} (hj : -18446744073709551616 < j ∧ j < 18446744073709551616) : binM .mul h (.int i) (.int j) = some (.int (i * j), h) := by simp [binM, hj]
@[simp] theorem mul_l {i j : Int} (hj : -18446744073709551616 < i ∧ i < 18446744073709551616) : binM .mul h (.int i) (.int j) = some (.int (i * j), h) := by simp [binM, hj]
@[simp] theorem mod_int {i j : Int} (hj : 0 < j) : binM .mod h (.int i) (.int j) = some (.int (i % j), h) := by simp [binM, hj]
@[simp] theorem fdiv_int {i j : Int} (hj : 0 < j) (hl : j.natAbs.log2 < 9000) : binM .fdiv h (.int i) (.int j) = some (.int (i / j), h) := by simp [binM, hj, hl]
@[simp] theorem pow_18 : binM .pow h (.int 10) (.int 18) = some (.int 1000000000000000000, h) := by simp [binM]
theorem add_tup {a b : List MV} (hz : a.length + b.length ≤ LIM) : binM .add h (.tup a) (.tup b) = some (.tup (a ++ b), h) := by simp [binM]; omega
theorem add_frl {a b : List MV} (hz : a.length + b.length ≤ LIM) : binM .add h (.frl a) (.frl b) = some (.ref h.length, h ++ [.lst (a ++ b)]) := by simp [binM, lstM]; omega
@[simp] theorem lt_int (i j : Int) : cmpM .lt h (.int i) (.int j) = some (decide (i < j)) := rfl
@[simp] theorem le_int (i j : Int) : cmpM .le h (.int i) (.int j) = some (decide (i ≤ j)) := rfl
@[simp] theorem gt_int (i j : Int) : cmpM .gt h (.int i) (.int j) = some (decide (j < i)) := rfl
@[simp] theorem ge_int (i j : Int) : cmpM .ge h (.int i) (.int j) = some (decide (j ≤ i)) := rfl
@[simp] theorem eqM_int (a b : Int) : eqM h (.int a) (.int b) = some (decide (a = b)) := by
  simp [eqM, toDH, toD, SeqAt.shaped, PyData.canLay0, PyData.depth, PyData.eqv]
  by_cases h : a = b <;> simp [h]
@[simp] theorem eqM_bl (a b : Bool) : eqM h (.bl a) (.bl b) = some (a == b) := by
  simp [eqM, toDH, toD, SeqAt.shaped, PyData.canLay0, PyData.depth, PyData.eqv]
theorem eqM_str (a b : Str) (ha : PyData.strOk a = true) (hb : PyData.strOk b = true) : eqM h (.str a) (.str b) = some (a == b) := by
  simp [eqM, toDH, toD, SeqAt.shaped, PyData.canLay0, PyData.depth, PyData.eqv, ha, hb]
@[simp] theorem eq_M : cmpM .eq h x y = eqM h x y := rfl
@[simp] theorem ne_M : cmpM .ne h x y = (eqM h x y).map (!·) := rfl
@[simp] theorem isN_non : cmpM .isN h .non .non = some true := rfl
@[simp] theorem isN_int (i : Int) : cmpM .isN h (.int i) .non = some false := rfl
@[simp] theorem isN_tup : cmpM .isN h (.tup xs) .non = some false := rfl
@[simp] theorem isN_frl : cmpM .isN h (.frl xs) .non = some false := rfl
@[simp] theorem isN_bl (i : Bool) : cmpM .isN h (.bl i) .non = some false := rfl
@[simp] theorem isN_str (i : Str) : cmpM .isN h (.str i) .non = some false := rfl
@[simp] theorem notN_non : cmpM .notN h .non .non = some false := rfl
@[simp] theorem notN_int (i : Int) : cmpM .notN h (.int i) .non = some true := rfl
@[simp] theorem notN_tup : cmpM .notN h (.tup xs) .non = some true := rfl
@[simp] theorem notN_frl : cmpM .notN h (.frl xs) .non = some true := rfl
@[simp] theorem notN_bl (i : Bool) : cmpM .notN h (.bl i) .non = some true := rfl
@[simp] theorem notN_str (i : Str) : cmpM .notN h (.str i) .non = some true := rfl
@[simp] theorem in_M : cmpM .isin h x y = inM h x y := rfl
@[simp] theorem notin_M : cmpM .notin h x y = (inM h x y).map (!·) := rfl
@[simp] theorem tr_bl (b : Bool) : truth h (.bl b) = some b := rfl
@[simp] theorem tr_int (i : Int) : truth h (.int i) = some (i != 0) := rfl
@[simp] theorem tr_non : truth h .non = some false := rfl
@[simp] theorem tr_tup : truth h (.tup xs) = some (!xs.isEmpty) := rfl
@[simp] theorem tr_frl : truth h (.frl xs) = some (!xs.isEmpty) := rfl
@[simp] theorem seq_tup : seqM h (.tup xs) = some xs := rfl
@[simp] theorem seq_frl : seqM h (.frl xs) = some xs := rfl
@[simp] theorem lstM_frl : lstM h (.frl xs) = some xs := rfl
@[simp] theorem isi_non (t : TyN) : isiM h .non t = some false := by cases t <;> rfl
@[simp] theorem isi_bl (b : Bool) (t : TyN) : isiM h (.bl b) t = some (decide (t = .bool ∨ t = .int)) := by cases t <;> rfl
@[simp] theorem isi_int (b : Int) (t : TyN) : isiM h (.int b) t = some (decide (t = .int)) := by cases t <;> rfl
@[simp] theorem isi_str (b : Str) (t : TyN) : isiM h (.str b) t = some (decide (t = .str)) := by cases t <;> rfl
@[simp] theorem isi_tup (b : List MV) (t : TyN) : isiM h (.tup b) t = some (decide (t = .tuple)) := by cases t <;> rfl
@[simp] theorem isi_frl (b : List MV) (t : TyN) : isiM h (.frl b) t = some (decide (t = .list)) := by cases t <;> rfl
@[simp] theorem at_tup (j : Int) : atM h (.tup xs) (.int j) = L2.atI xs j := rfl
@[simp] theorem at_frl (j : Int) : atM h (.frl xs) (.int j) = L2.atI xs j := rfl
@[simp] theorem atI_0 : L2.atI (x :: xs) 0 = some x := by simp [L2.atI, L2.ixN]
theorem atI_nat {α : Type} {ys : List α} {n : Nat} (h : n < ys.length) : L2.atI ys (n : Int) = some ys[n] := by
  unfold L2.atI L2.ixN
  rw [if_pos (by omega), if_pos (by omega)]
  simp [List.getElem?_eq_getElem h]
theorem atI_get {α : Type} {ys : List α} {n : Nat} : L2.atI ys (n : Int) = ys[n]? := by
  unfold L2.atI L2.ixN
  rw [if_pos (by omega)]
  by_cases h : n < ys.length
  · rw [if_pos (by omega)]; simp
  · rw [if_neg (by omega)]
    simp at h
    simp [h]
@[simp] theorem atI_1 {x0 x1 : MV} {xs : List MV} : L2.atI (x0 :: x1 :: xs) 1 = some x1 := by
  have := atI_get (ys := x0 :: x1 :: xs) (n := 1)
  simpa using this
@[simp] theorem atI_2 {x0 x1 x2 : MV} {xs : List MV} : L2.atI (x0 :: x1 :: x2 :: xs) 2 = some x2 := by
  have := atI_get (ys := x0 :: x1 :: x2 :: xs) (n := 2)
  simpa using this
@[simp] theorem atI_3 {x0 x1 x2 x3 : MV} {xs : List MV} : L2.atI (x0 :: x1 :: x2 :: x3 :: xs) 3 = some x3 := by
  have := atI_get (ys := x0 :: x1 :: x2 :: x3 :: xs) (n := 3)
  simpa using this
@[simp] theorem atI_4 {x0 x1 x2 x3 x4 : MV} {xs : List MV} : L2.atI (x0 :: x1 :: x2 :: x3 :: x4 :: xs) 4 = some x4 := by
  have := atI_get (ys := x0 :: x1 :: x2 :: x3 :: x4 :: xs) (n := 4)
  simpa using this
@[simp] theorem atI_5 {x0 x1 x2 x3 x4 x5 : MV} {xs : List MV} : L2.atI (x0 :: x1 :: x2 :: x3 :: x4 :: x5 :: xs) 5 = some x5 := by
  have := atI_get (ys := x0 :: x1 :: x2 :: x3 :: x4 :: x5 :: xs) (n := 5)
  simpa using this
@[simp] theorem atI_6 {x0 x1 x2 x3 x4 x5 x6 : MV} {xs : List MV} : L2.atI (x0 :: x1 :: x2 :: x3 :: x4 :: x5 :: x6 :: xs) 6 = some x6 := by
  have := atI_get (ys := x0 :: x1 :: x2 :: x3 :: x4 :: x5 :: x6 :: xs) (n := 6)
  simpa using this
@[simp] theorem atI_7 {x0 x1 x2 x3 x4 x5 x6 x7 : MV} {xs : List MV} : L2.atI (x0 :: x1 :: x2 :: x3 :: x4 :: x5 :: x6 :: x7 :: xs) 7 = some x7 := by
  have := atI_get (ys := x0 :: x1 :: x2 :: x3 :: x4 :: x5 :: x6 :: x7 :: xs) (n := 7)
  simpa using this
@[simp] theorem atI_8 {x0 x1 x2 x3 x4 x5 x6 x7 x8 : MV} {xs : List MV} : L2.atI (x0 :: x1 :: x2 :: x3 :: x4 :: x5 :: x6 :: x7 :: x8 :: xs) 8 = some x8 := by
  have := atI_get (ys := x0 :: x1 :: x2 :: x3 :: x4 :: x5 :: x6 :: x7 :: x8 :: xs) (n := 8)
  simpa using this
@[simp] theorem atI_9 {x0 x1 x2 x3 x4 x5 x6 x7 x8 x9 : MV} {xs : List MV} : L2.atI (x0 :: x1 :: x2 :: x3 :: x4 :: x5 :: x6 :: x7 :: x8 :: x9 :: xs) 9 = some x9 := by
  have := atI_get (ys := x0 :: x1 :: x2 :: x3 :: x4 :: x5 :: x6 :: x7 :: x8 :: x9 :: xs) (n := 9)
  simpa using this
@[simp] theorem atI_10 {x0 x1 x2 x3 x4 x5 x6 x7 x8 x9 x10 : MV} {xs : List MV} : L2.atI (x0 :: x1 :: x2 :: x3 :: x4 :: x5 :: x6 :: x7 :: x8 :: x9 :: x10 :: xs) 10 = some x10 := by
  have := atI_get (ys := x0 :: x1 :: x2 :: x3 :: x4 :: x5 :: x6 :: x7 :: x8 :: x9 :: x10 :: xs) (n := 10)
  simpa using this
@[simp] theorem atI_11 {x0 x1 x2 x3 x4 x5 x6 x7 x8 x9 x10 x11 : MV} {xs : List MV} : L2.atI (x0 :: x1 :: x2 :: x3 :: x4 :: x5 :: x6 :: x7 :: x8 :: x9 :: x10 :: x11 :: xs) 11 = some x11 := by
  have := atI_get (ys := x0 :: x1 :: x2 :: x3 :: x4 :: x5 :: x6 :: x7 :: x8 :: x9 :: x10 :: x11 :: xs) (n := 11)
  simpa using this
@[simp] theorem atI_12 {x0 x1 x2 x3 x4 x5 x6 x7 x8 x9 x10 x11 x12 : MV} {xs : List MV} : L2.atI (x0 :: x1 :: x2 :: x3 :: x4 :: x5 :: x6 :: x7 :: x8 :: x9 :: x10 :: x11 :: x12 :: xs) 12 = some x12 := by
  have := atI_get (ys := x0 :: x1 :: x2 :: x3 :: x4 :: x5 :: x6 :: x7 :: x8 :: x9 :: x10 :: x11 :: x12 :: xs) (n := 12)
  simpa using this
@[simp] theorem atI_13 {x0 x1 x2 x3 x4 x5 x6 x7 x8 x9 x10 x11 x12 x13 : MV} {xs : List MV} : L2.atI (x0 :: x1 :: x2 :: x3 :: x4 :: x5 :: x6 :: x7 :: x8 :: x9 :: x10 :: x11 :: x12 :: x13 :: xs) 13 = some x13 := by
  have := atI_get (ys := x0 :: x1 :: x2 :: x3 :: x4 :: x5 :: x6 :: x7 :: x8 :: x9 :: x10 :: x11 :: x12 :: x13 :: xs) (n := 13)
  simpa using this
@[simp] theorem atI_14 {x0 x1 x2 x3 x4 x5 x6 x7 x8 x9 x10 x11 x12 x13 x14 : MV} {xs : List MV} : L2.atI (x0 :: x1 :: x2 :: x3 :: x4 :: x5 :: x6 :: x7 :: x8 :: x9 :: x10 :: x11 :: x12 :: x13 :: x14 :: xs) 14 = some x14 := by
  have := atI_get (ys := x0 :: x1 :: x2 :: x3 :: x4 :: x5 :: x6 :: x7 :: x8 :: x9 :: x10 :: x11 :: x12 :: x13 :: x14 :: xs) (n := 14)
  simpa using this
@[simp] theorem atI_15 {x0 x1 x2 x3 x4 x5 x6 x7 x8 x9 x10 x11 x12 x13 x14 x15 : MV} {xs : List MV} : L2.atI (x0 :: x1 :: x2 :: x3 :: x4 :: x5 :: x6 :: x7 :: x8 :: x9 :: x10 :: x11 :: x12 :: x13 :: x14 :: x15 :: xs) 15 = some x15 := by
  have := atI_get (ys := x0 :: x1 :: x2 :: x3 :: x4 :: x5 :: x6 :: x7 :: x8 :: x9 :: x10 :: x11 :: x12 :: x13 :: x14 :: x15 :: xs) (n := 15)
  simpa using this
@[simp] theorem atI_16 {x0 x1 x2 x3 x4 x5 x6 x7 x8 x9 x10 x11 x12 x13 x14 x15 x16 : MV} {xs : List MV} : L2.atI (x0 :: x1 :: x2 :: x3 :: x4 :: x5 :: x6 :: x7 :: x8 :: x9 :: x10 :: x11 :: x12 :: x13 :: x14 :: x15 :: x16 :: xs) 16 = some x16 := by
  have := atI_get (ys := x0 :: x1 :: x2 :: x3 :: x4 :: x5 :: x6 :: x7 :: x8 :: x9 :: x10 :: x11 :: x12 :: x13 :: x14 :: x15 :: x16 :: xs) (n := 16)
  simpa using this
@[simp] theorem atI_17 {x0 x1 x2 x3 x4 x5 x6 x7 x8 x9 x10 x11 x12 x13 x14 x15 x16 x17 : MV} {xs : List MV} : L2.atI (x0 :: x1 :: x2 :: x3 :: x4 :: x5 :: x6 :: x7 :: x8 :: x9 :: x10 :: x11 :: x12 :: x13 :: x14 :: x15 :: x16 :: x17 :: xs) 17 = some x17 := by
  have := atI_get (ys := x0 :: x1 :: x2 :: x3 :: x4 :: x5 :: x6 :: x7 :: x8 :: x9 :: x10 :: x11 :: x12 :: x13 :: x14 :: x15 :: x16 :: x17 :: xs) (n := 17)
  simpa using this
@[simp] theorem atI_18 {x0 x1 x2 x3 x4 x5 x6 x7 x8 x9 x10 x11 x12 x13 x14 x15 x16 x17 x18 : MV} {xs : List MV} : L2.atI (x0 :: x1 :: x2 :: x3 :: x4 :: x5 :: x6 :: x7 :: x8 :: x9 :: x10 :: x11 :: x12 :: x13 :: x14 :: x15 :: x16 :: x17 :: x18 :: xs) 18 = some x18 := by
  have := atI_get (ys := x0 :: x1 :: x2 :: x3 :: x4 :: x5 :: x6 :: x7 :: x8 :: x9 :: x10 :: x11 :: x12 :: x13 :: x14 :: x15 :: x16 :: x17 :: x18 :: xs) (n := 18)
  simpa using this
@[simp] theorem atI_19 {x0 x1 x2 x3 x4 x5 x6 x7 x8 x9 x10 x11 x12 x13 x14 x15 x16 x17 x18 x19 : MV} {xs : List MV} : L2.atI (x0 :: x1 :: x2 :: x3 :: x4 :: x5 :: x6 :: x7 :: x8 :: x9 :: x10 :: x11 :: x12 :: x13 :: x14 :: x15 :: x16 :: x17 :: x18 :: x19 :: xs) 19 = some x19 := by
  have := atI_get (ys := x0 :: x1 :: x2 :: x3 :: x4 :: x5 :: x6 :: x7 :: x8 :: x9 :: x10 :: x11 :: x12 :: x13 :: x14 :: x15 :: x16 :: x17 :: x18 :: x19 :: xs) (n := 19)
  simpa using this
@[simp] theorem bi_len : biM .len h [x] = lenM h [x] := rfl
@[simp] theorem len_tup : lenM h [.tup xs] = some (.int xs.length, h) := rfl
@[simp] theorem len_frl : lenM h [.frl xs] = some (.int xs.length, h) := rfl
@[simp] theorem bi_int (i : Int) : biM .int h [.int i] = some (.int i, h) := rfl
@[simp] theorem bi_intb (i : Bool) : biM .int h [.bl i] = some (.int (if i = true then 1 else 0), h) := rfl
@[simp] theorem bi_abs (i : Int) : biM .abs h [.int i] = some (.int (ab i), h) := rfl
@[simp] theorem bi_max (i j : Int) : biM .max h [.int i, .int j] = some (.int (mx i j), h) := rfl
@[simp] theorem bi_min (i j : Int) : biM .min h [.int i, .int j] = some (.int (mn i j), h) := rfl
@[simp] theorem bi_list : biM .list h [x] = mp (fun xs => (.ref h.length, h ++ [.lst xs])) .mk ((seqM h x)) := rfl
@[simp] theorem bi_tuple : biM .tuple h [x] = mp (fun xs => (.tup xs, h)) .mk ((seqM h x)) := rfl
@[simp] theorem bi_sum : biM .sum h [x] = bd (fun xs => mp (fun ns => (.int ns.sum, h)) .mk ((intsM xs))) .mk ((lstM h x)) := rfl
@[simp] theorem bi_all : biM .all h [x] = bd (fun xs => mp (fun ns => (.bl (ns.all id), h)) .mk ((blsM xs))) .mk ((lstM h x)) := rfl
@[simp] theorem bi_any : biM .any h [x] = bd (fun xs => mp (fun ns => (.bl (ns.any id), h)) .mk ((blsM xs))) .mk ((lstM h x)) := rfl
@[simp] theorem part_t : partM true x = some none := rfl
@[simp] theorem part_f (i : Int) : partM false (.int i) = some (some i) := rfl
@[simp] theorem isNon_0  : E.isNon (.non) = true := rfl
@[simp] theorem isNon_1 (i) : E.isNon (.int i) = false := rfl
@[simp] theorem isNon_2 (i) : E.isNon (.var i) = false := rfl
@[simp] theorem isNon_3 (a b) : E.isNon (.idx a b) = false := rfl
@[simp] theorem isNon_4 (a b c) : E.isNon (.bin a b c) = false := rfl
@[simp] theorem isNon_5 (a b) : E.isNon (.call a b) = false := rfl
@[simp] theorem isNon_6 (a) : E.isNon (.neg a) = false := rfl
@[simp] theorem isNon_7 (a) : E.isNon (.glob a) = false := rfl
@[simp] theorem isNon_8 (a b) : E.isNon (.bi a b) = false := rfl
@[simp] theorem isNon_9 (a b c) : E.isNon (.ife a b c) = false := rfl
@[simp] theorem slice_tup (l u : Option Int) : sliceM h (.tup xs) l u = some (.tup (cutM xs l u), h) := rfl
@[simp] theorem slice_frl (l u : Option Int) : sliceM h (.frl xs) l u = some (.ref h.length, h ++ [.lst (cutM xs l u)]) := rfl
@[simp] theorem back_tup : backM (.tup xs, h) = some (.tup xs.reverse, h) := rfl
@[simp] theorem aug_add (i j : Int) : augM .add h (.int i) (.int j) = some (.int (i + j), h) := rfl
@[simp] theorem aug_sub (i j : Int) : augM .sub h (.int i) (.int j) = some (.int (i - j), h) := rfl
theorem intsM_map (is : List Int) : intsM (is.map .int) = some is := by
  induction is with
  | nil => rfl
  | cons i is ih => simp [intsM, ih]
end
section
variable (env : PEnv) (x : MV) (xs : List MV)
theorem methP_app {j : Nat} (e : env[j]? = some (some (.own xs))) (hz : xs.length < LIM) : methP .append env j [x] = some (.d .non, env.set j (some (.own (xs ++ [x])))) := by
  have hz' : xs.length < 16777216 := hz
  simp only [methP, e, methM, appendM, List.getElem?_cons_zero]
  rw [if_pos hz']
  rfl
theorem methP_pop {j : Nat} {d : Int} {z : MV} (e : env[j]? = some (some (.own xs))) (h0 : 0 ≤ d) (h1 : d < xs.length) (hz : xs.length ≤ 16777216) : methP .pop env j [.int d] = some (.d (xs.getD d.toNat z), env.set j (some (.own (xs.eraseIdx d.toNat)))) := by
  have h2 : d.toNat < xs.length := by omega
  simp only [methP, e, methM, popM, List.getElem?_cons_zero]
  rw [if_pos (by omega)]
  unfold L2.ixN
  rw [if_pos h0, if_pos h1]
  simp [List.getElem?_eq_getElem h2]
theorem setP_nat {j n : Nat} (e : env[j]? = some (some (.own xs))) (h : n < xs.length) : setP env j (.int n) x = some ⟨.nx, env.set j (some (.own (xs.set n x)))⟩ := by
  simp only [setP, e, setM, List.getElem?_cons_zero]
  unfold L2.ixN
  rw [if_pos (by omega), if_pos (by omega)]
  simp
end
/-- one of two, of which simp looks at none before it knows which -/
def selM (a b : Option POut) (t : Tk a) (t' : Tk b) (v : MV) : Option POut := match v with
  | .bl true => a
  | .bl false => b
  | _ => none
@[simp] theorem selM_bl (c : Bool) (a b : Option POut) (t t') : selM a b t t' (.bl c) = sel a b t t' c := by cases c <;> rfl
def nxt (f : PEnv → Option POut) (t : Tk f) (o : POut) : Option POut := match o.fl with
  | .nx => f o.env
  | _ => some o
@[simp] theorem nxt_nx (e : PEnv) (f : PEnv → Option POut) (t) : nxt f t ⟨.nx, e⟩ = f e := rfl
@[simp] theorem nxt_rt (w : PV) (e : PEnv) (f : PEnv → Option POut) (t) : nxt f t ⟨.rt w, e⟩ = some ⟨.rt w, e⟩ := rfl
@[simp] theorem nxt_bk (e : PEnv) (f : PEnv → Option POut) (t) : nxt f t ⟨.bk, e⟩ = some ⟨.bk, e⟩ := rfl
@[simp] theorem nxt_ct (e : PEnv) (f : PEnv → Option POut) (t) : nxt f t ⟨.ct, e⟩ = some ⟨.ct, e⟩ := rfl
/-- a value is laid into a target -/
def layP (t : Tg) (w : PV) (env : PEnv) : Option POut := match w with
  | .d v => mp (fun e => ⟨.nx, e⟩) .mk (bindP t v env)
  | .own xs => match t with
    | .nm i => some ⟨.nx, env.set i (some (.own xs))⟩
    | _ => none
@[simp] theorem layP_d (t : Tg) (v : MV) (env : PEnv) : layP t (.d v) env = mp (fun e => ⟨.nx, e⟩) .mk (bindP t v env) := rfl
@[simp] theorem layP_own (i : Nat) (xs : List MV) (env : PEnv) : layP (.nm i) (.own xs) env = some ⟨.nx, env.set i (some (.own xs))⟩ := rfl
section
variable (g : Mod) (cp : Str → List PV → Option (PV × List (List MV))) (env : PEnv)
@[simp] theorem px_var (i : Nat) : pX g cp (.var i) env = match env[i]? with
    | some (some (.d v)) => some (.d v, env)
    | _ => none := by simp only [pX, bd, mp]; try rfl
@[simp] theorem px_non : pX g cp .non env = some (.d .non, env) := by simp only [pX, bd, mp]
@[simp] theorem px_bl (b) : pX g cp (.bl b) env = some (.d (.bl b), env) := by simp only [pX, bd, mp]
@[simp] theorem px_int (b) : pX g cp (.int b) env = some (.d (.int b), env) := by simp only [pX, bd, mp]
@[simp] theorem px_str (b) : pX g cp (.str b) env = some (.d (.str b), env) := by simp only [pX, bd, mp]
theorem px_glob {x : Str} {v : MV} (e : g.cns.lookup x = some v) (d : v.data = true) : pX g cp (.glob x) env = some (.d v, env) := by simp only [pX, e, Option.bind_some, if_pos d]
@[simp] theorem px_tup (es) : pX g cp (.tup es) env = bd (fun r => mp (fun vs => (.d (.tup vs), r.2)) .mk ((dVs r.2 r.1))) .mk ((pRds g cp es env)) := by simp only [pX, bd, mp]
@[simp] theorem px_lst (es) : pX g cp (.lst es) env = bd (fun r => mp (fun vs => (.own vs, r.2)) .mk ((dVs r.2 r.1))) .mk ((pRds g cp es env)) := by simp only [pX, bd, mp]
@[simp] theorem px_bin (o a b) : pX g cp (.bin o a b) env = bd (fun x => bd (fun y => bd (fun u => bd (fun w => liftPV y.2 (binM o [] u w)) .mk ((rdV y.2 y.1))) .mk ((rdV y.2 x.1))) .mk ((rdE b (pX g cp b x.2) x.2))) .mk ((rdE a (pX g cp a env) env)) := by simp only [pX, bd, mp]
@[simp] theorem px_neg (a) : pX g cp (.neg a) env = bd (fun x => liftPV x.2 (negM (x.1, []))) .mk ((dOf (pX g cp a env))) := by simp only [pX, bd, mp]
@[simp] theorem px_cmp (o a b) : pX g cp (.cmp o a b) env = bd (fun x => bd (fun y => bd (fun u => bd (fun w => mp (fun c => (.d (.bl c), y.2)) .mk ((cmpM o [] u w))) .mk ((rdV y.2 y.1))) .mk ((dV y.2 x.1))) .mk ((rdE b (pX g cp b x.2) x.2))) .mk ((rdE a (pX g cp a env) env)) := by simp only [pX, bd, mp]
@[simp] theorem px_chain (o1 o2 a b c) : pX g cp (.chain o1 o2 a b c) env = bd (fun x => bd (fun y => bd (fun c1 => sel (bd (fun z => mp (fun c2 => (.d (.bl c2), z.2)) .mk (cmpM o2 [] y.1 z.1)) .mk (dOf (pX g cp c y.2))) (some (.d (.bl false), y.2)) .mk .mk c1) .mk (cmpM o1 [] x.1 y.1)) .mk (dOf (pX g cp b x.2))) .mk (dOf (pX g cp a env)) := by simp only [pX, sel, bd, mp]
@[simp] theorem px_and (a b) : pX g cp (.and a b) env = bd (fun x => bd (fun c => sel (mp (fun y => (.d y.1, y.2)) .mk (dOf (pX g cp b x.2))) (some (.d x.1, x.2)) .mk .mk c) .mk (truth [] x.1)) .mk (dOf (pX g cp a env)) := by simp only [pX, sel, bd, mp]
@[simp] theorem px_or (a b) : pX g cp (.or a b) env = bd (fun x => bd (fun c => sel (some (.d x.1, x.2)) (mp (fun y => (.d y.1, y.2)) .mk (dOf (pX g cp b x.2))) .mk .mk c) .mk (truth [] x.1)) .mk (dOf (pX g cp a env)) := by simp only [pX, sel, bd, mp]
@[simp] theorem px_not (a) : pX g cp (.not a) env = bd (fun x => bd (fun u => mp (fun c => (.d (.bl (!c)), x.2)) .mk ((truth [] u))) .mk ((rdV x.2 x.1))) .mk ((rdE a (pX g cp a env) env)) := by simp only [pX, bd, mp]
@[simp] theorem px_ife (c a b) : pX g cp (.ife c a b) env = bd (fun x => bd (fun u => bd (fun c => sel (pX g cp a x.2) (pX g cp b x.2) .mk .mk c) .mk (truth [] u)) .mk (rdV x.2 x.1)) .mk (rdE c (pX g cp c env) env) := by simp only [pX, sel, bd]
@[simp] theorem px_idx (a i) : pX g cp (.idx a i) env = bd (fun x => bd (fun y => bd (fun u => bd (fun w => mp (fun v => (.d v, y.2)) .mk ((atM [] u w))) .mk ((rdV y.2 y.1))) .mk ((rdV y.2 x.1))) .mk ((rdE i (pX g cp i x.2) x.2))) .mk ((rdE a (pX g cp a env) env)) := by simp only [pX, bd, mp]
@[simp] theorem px_slice (a lo hi) : pX g cp (.slice a lo hi) env = bd (fun x => bd (fun l => bd (fun u => bd (fun v => bd (fun i => bd (fun j => liftPV u.2 (sliceM [] v i j)) .mk ((partM hi.isNon u.1))) .mk ((partM lo.isNon l.1))) .mk ((rdV u.2 x.1))) .mk ((dOf (pX g cp hi l.2)))) .mk ((dOf (pX g cp lo x.2)))) .mk ((rdE a (pX g cp a env) env)) := by simp only [pX, bd, mp]
@[simp] theorem px_call (f es) : pX g cp (.call f es) env = bd (fun r => bd (fun q => bd (fun z => mp (fun env' => (z.1, env')) .mk ((backP q.2 q.1.2 z.2))) .mk ((cp f q.1.1))) .mk ((argsP r.2 r.1))) .mk ((pRds g cp es env)) := by simp only [pX, bd, mp]
@[simp] theorem px_bi (f es) : pX g cp (.bi f es) env = bd (fun r => bd (fun vs => liftPV r.2 (biM f [] vs)) .mk ((rdVs r.2 r.1))) .mk ((pRds g cp es env)) := by simp only [pX, bd, mp]
@[simp] theorem px_isi (a t) : pX g cp (.isi a t) env = bd (fun x => bd (fun u => mp (fun c => (.d (.bl c), x.2)) .mk ((isiM [] u t))) .mk ((rdV x.2 x.1))) .mk ((rdE a (pX g cp a env) env)) := by simp only [pX, bd, mp]
@[simp] theorem px_meth (m j es) : pX g cp (.meth m (.var j) es) env = bd (fun r => bd (fun vs => methP m r.2 j vs) .mk ((dVs r.2 r.1))) .mk ((pRds g cp es env)) := by simp only [pX, bd, mp]
@[simp] theorem px_lrng1 (es) : pX g cp (.lrng .rng1 es) env = bd (fun r => bd (fun vs => mp (fun st => (.own st.items, r.2)) .mk ((itsM .rng1 [] vs))) .mk ((dVs r.2 r.1))) .mk ((pRds g cp es env)) := by simp only [pX, bd, mp]
@[simp] theorem px_lrng2 (es) : pX g cp (.lrng .rng2 es) env = bd (fun r => bd (fun vs => mp (fun st => (.own st.items, r.2)) .mk ((itsM .rng2 [] vs))) .mk ((dVs r.2 r.1))) .mk ((pRds g cp es env)) := by simp only [pX, bd, mp]
@[simp] theorem px_frz (e) : pX g cp (.frz e) env = mp (fun r => (iceP r.1, r.2)) .mk ((pX g cp e env)) := by simp only [pX, bd, mp]
@[simp] theorem px_back (a) : pX g cp (.back a) env = bd (fun x => liftPV x.2 (backM (x.1, []))) .mk ((dOf (pX g cp a env))) := by simp only [pX, bd, mp]
@[simp] theorem px_gflt (i a) : pX g cp (.gflt i a) env = bd (fun x => gfP i x.2 x.1) .mk ((dOf (pX g cp a env))) := by simp only [pX, bd, mp]
@[simp] theorem px_lenset (a) : pX g cp (.lenset a) env = bd (fun x => bd (fun u => liftPV x.2 (lsM (u, []))) .mk ((rdV x.2 x.1))) .mk ((rdE a (pX g cp a env) env)) := by simp only [pX, bd, mp]
/-- a comprehension's test -/
def cTsP (cs : List E) : PEnv → Option (MV × PEnv) := fun e => match cs with
        | [] => some (.bl true, e)
        | c :: _ => (rdE c (pX g cp c e) e).bind fun x => (rdV x.2 x.1).bind fun u => (truth [] u).map fun b => (.bl b, x.2)
def cElP (elt : E) : PEnv → Option (MV × PEnv) := fun e => dOf (pX g cp elt e)
@[simp] theorem cTsP_nil (e : PEnv) : cTsP g cp [] e = some (.bl true, e) := rfl
@[simp] theorem cTsP_cons (c : E) (cs : List E) (e : PEnv) : cTsP g cp (c :: cs) e = bd (fun x => bd (fun u => mp (fun b => (.bl b, x.2)) .mk ((truth [] u))) .mk ((rdV x.2 x.1))) .mk ((rdE c (pX g cp c e) e)) := rfl
@[simp] theorem cElP_ap (c : E) (e : PEnv) : cElP g cp c e = dOf (pX g cp c e) := rfl
theorem px_comp {elt t k es cs own} (hs : (slotsT t).all (fun i => (own.map (·.2)).contains i) = true) : pX g cp (.comp elt t k es cs own) env = bd (fun r => bd (fun st =>
      mp (fun q => (.own q.1, moveIn (restP (moveOut r.2 st.2) q.2 (own.map (·.2))) st.2)) .mk (compP t (own.map (·.2)) (cTsP g cp cs) (cElP g cp elt) st.1 [] (moveOut r.2 st.2))) .mk (itsP k r.2 r.1)) .mk (pRds g cp es env) := by
  simp only [pX, if_pos hs]; rfl
/-- a comprehension with one name -/
@[simp] theorem px_comp1 {elt i k es cs x} : pX g cp (.comp elt (.nm i) k es cs [(x, i)]) env = bd (fun r => bd (fun st =>
      mp (fun q => (.own q.1, moveIn (restP (moveOut r.2 st.2) q.2 [i]) st.2)) .mk (compP (.nm i) [i] (cTsP g cp cs) (cElP g cp elt) st.1 [] (moveOut r.2 st.2))) .mk (itsP k r.2 r.1)) .mk (pRds g cp es env) := px_comp g cp env (by simp [slotsT])
@[simp] theorem pRds_nil : pRds g cp [] env = some ([], env) := by simp only [pRds, bd, mp]
@[simp] theorem pRds_cons (e es) : pRds g cp (e :: es) env = bd (fun x => mp (fun r => (x.1 :: r.1, r.2)) .mk ((pRds g cp es x.2))) .mk ((rdE e (pX g cp e env) env)) := by simp only [pRds, bd, mp]
variable (np : Nat)
@[simp] theorem ps_asg (t e) : pS g cp np (.asg t e) env = bd (fun x => layP t x.1 x.2) .mk ((pX g cp e env)) := by simp only [pS, bd, mp]; try rfl
@[simp] theorem ps_setIx (j ix e) : pS g cp np (.setIx (.var j) ix e) env = bd (fun x => bd (fun z => setP z.2 j z.1 x.1) .mk ((dOf (pX g cp ix x.2)))) .mk ((dOf (pX g cp e env))) := by simp only [pS, bd, mp]
def slP (w : PV) (env : PEnv) (j : Nat) (lo hi : Int) : Option POut := match w with
  | .own ys => setSlP env j lo hi ys
  | .d _ => none
@[simp] theorem slP_own (ys : List MV) (j lo hi) : slP (.own ys) env j lo hi = setSlP env j lo hi ys := rfl
@[simp] theorem ps_setSl (j lo hi e) : pS g cp np (.setSl (.var j) lo hi e) env = bd (fun x => slP x.1 x.2 j lo hi) .mk (pX g cp e env) := by simp only [pS, bd, mp]; try rfl
@[simp] theorem ps_aug (i o e) : pS g cp np (.aug i o e) env = match env[i]? with
    | some (some (.d v)) => bd (fun x => augP x.2 i o v x.1) .mk (dOf (pX g cp e env))
    | _ => none := by simp only [pS, bd, mp]; try rfl
@[simp] theorem ps_ex (e) : pS g cp np (.ex e) env = mp (fun x => ⟨.nx, x.2⟩) .mk ((pX g cp e env)) := by simp only [pS, bd, mp]
def retP (e : E) (r : Option (PV × PEnv)) : Option POut := match e with
  | .var i => match env[i]? with
      | some (some (.d v)) => some ⟨.rt (.d v), env⟩
      | some (some (.own xs)) => if np ≤ i then some ⟨.rt (.own xs), env⟩ else none
      | _ => none
  | _ => mp (fun x => ⟨.rt x.1, x.2⟩) .mk r
theorem ps_ret (e) : pS g cp np (.ret e) env = retP env np e (pX g cp e env) := by cases e <;> first | rfl | simp only [pS, retP, mp]
@[simp] theorem ps_retV (i) : pS g cp np (.ret (.var i)) env = match env[i]? with
      | some (some (.d v)) => some ⟨.rt (.d v), env⟩
      | some (some (.own xs)) => if np ≤ i then some ⟨.rt (.own xs), env⟩ else none
      | _ => none := by simp only [pS, bd, mp]; try rfl
@[simp] theorem ps_ret1 : pS g cp np (.ret .non) env = some ⟨.rt (.d .non), env⟩ := by simp only [ps_ret, retP, px_non, mp_some]
@[simp] theorem ps_ret2 (b) : pS g cp np (.ret (.bl b)) env = some ⟨.rt (.d (.bl b)), env⟩ := by simp only [ps_ret, retP, px_bl, mp_some]
@[simp] theorem ps_ret3 (b) : pS g cp np (.ret (.int b)) env = some ⟨.rt (.d (.int b)), env⟩ := by simp only [ps_ret, retP, px_int, mp_some]
@[simp] theorem ps_ret4 (b) : pS g cp np (.ret (.tup b)) env = mp (fun x => ⟨.rt x.1, x.2⟩) .mk ((pX g cp (.tup b) env)) := by simp only [ps_ret, retP]
@[simp] theorem ps_ret5 (b) : pS g cp np (.ret (.lst b)) env = mp (fun x => ⟨.rt x.1, x.2⟩) .mk ((pX g cp (.lst b) env)) := by simp only [ps_ret, retP]
@[simp] theorem ps_ret6 (o a b) : pS g cp np (.ret (.bin o a b)) env = mp (fun x => ⟨.rt x.1, x.2⟩) .mk ((pX g cp (.bin o a b) env)) := by simp only [ps_ret, retP]
@[simp] theorem ps_ret7 (o a b) : pS g cp np (.ret (.cmp o a b)) env = mp (fun x => ⟨.rt x.1, x.2⟩) .mk ((pX g cp (.cmp o a b) env)) := by simp only [ps_ret, retP]
@[simp] theorem ps_ret8 (a b) : pS g cp np (.ret (.and a b)) env = mp (fun x => ⟨.rt x.1, x.2⟩) .mk ((pX g cp (.and a b) env)) := by simp only [ps_ret, retP]
@[simp] theorem ps_ret9 (a b) : pS g cp np (.ret (.or a b)) env = mp (fun x => ⟨.rt x.1, x.2⟩) .mk ((pX g cp (.or a b) env)) := by simp only [ps_ret, retP]
@[simp] theorem ps_ret10 (a) : pS g cp np (.ret (.not a)) env = mp (fun x => ⟨.rt x.1, x.2⟩) .mk ((pX g cp (.not a) env)) := by simp only [ps_ret, retP]
@[simp] theorem ps_ret11 (a b c) : pS g cp np (.ret (.ife a b c)) env = mp (fun x => ⟨.rt x.1, x.2⟩) .mk ((pX g cp (.ife a b c) env)) := by simp only [ps_ret, retP]
@[simp] theorem ps_ret12 (a b) : pS g cp np (.ret (.idx a b)) env = mp (fun x => ⟨.rt x.1, x.2⟩) .mk ((pX g cp (.idx a b) env)) := by simp only [ps_ret, retP]
@[simp] theorem ps_ret13 (a b c) : pS g cp np (.ret (.slice a b c)) env = mp (fun x => ⟨.rt x.1, x.2⟩) .mk ((pX g cp (.slice a b c) env)) := by simp only [ps_ret, retP]
@[simp] theorem ps_ret14 (a b) : pS g cp np (.ret (.call a b)) env = mp (fun x => ⟨.rt x.1, x.2⟩) .mk ((pX g cp (.call a b) env)) := by simp only [ps_ret, retP]
@[simp] theorem ps_ret15 (a b) : pS g cp np (.ret (.bi a b)) env = mp (fun x => ⟨.rt x.1, x.2⟩) .mk ((pX g cp (.bi a b) env)) := by simp only [ps_ret, retP]
@[simp] theorem ps_ret16 (a) : pS g cp np (.ret (.frz a)) env = mp (fun x => ⟨.rt x.1, x.2⟩) .mk ((pX g cp (.frz a) env)) := by simp only [ps_ret, retP]
@[simp] theorem ps_ret17 (a b c d e f) : pS g cp np (.ret (.comp a b c d e f)) env = mp (fun x => ⟨.rt x.1, x.2⟩) .mk ((pX g cp (.comp a b c d e f) env)) := by simp only [ps_ret, retP]
@[simp] theorem ps_ret18 (a) : pS g cp np (.ret (.neg a)) env = mp (fun x => ⟨.rt x.1, x.2⟩) .mk ((pX g cp (.neg a) env)) := by simp only [ps_ret, retP]
@[simp] theorem ps_ret19 (a b c d e) : pS g cp np (.ret (.chain a b c d e)) env = mp (fun x => ⟨.rt x.1, x.2⟩) .mk ((pX g cp (.chain a b c d e) env)) := by simp only [ps_ret, retP]
@[simp] theorem ps_ret20 (b) : pS g cp np (.ret (.glob b)) env = mp (fun x => ⟨.rt x.1, x.2⟩) .mk ((pX g cp (.glob b) env)) := by simp only [ps_ret, retP]
@[simp] theorem ps_ret21 (b) : pS g cp np (.ret (.str b)) env = mp (fun x => ⟨.rt x.1, x.2⟩) .mk ((pX g cp (.str b) env)) := by simp only [ps_ret, retP]
@[simp] theorem ps_ret22 (b c) : pS g cp np (.ret (.isi b c)) env = mp (fun x => ⟨.rt x.1, x.2⟩) .mk ((pX g cp (.isi b c) env)) := by simp only [ps_ret, retP]
@[simp] theorem ps_retN : pS g cp np .retN env = some ⟨.rt (.d .non), env⟩ := by simp only [pS, bd, mp]
@[simp] theorem tstP_ap (c : E) : tstP g cp c env = bd (fun x => bd (fun u => mp (fun b => (.bl b, x.2)) .mk ((truth [] u))) .mk ((rdV x.2 x.1))) .mk ((rdE c (pX g cp c env) env)) := rfl
@[simp] theorem ps_ite (c a b) : pS g cp np (.ite c a b) env = bd (fun x => selM (pSs g cp np a x.2) (pSs g cp np b x.2) .mk .mk x.1) .mk (tstP g cp c env) := by
  simp only [pS]
  cases tstP g cp c env with
  | none => rfl
  | some x => rfl
def fBdP (body : List S) : PEnv → Option POut := fun e => pSs g cp np body e
@[simp] theorem fBdP_ap (body : List S) (e : PEnv) : fBdP g cp np body e = pSs g cp np body e := rfl
def forK (ns : List Nat) (r : Option POut) (src : Option (Nat × List MV)) : Option POut := if srcOk ns src = true then mp (fun o => ⟨o.fl, moveIn o.env src⟩) .mk r else none
@[simp] theorem forK_n (ns : List Nat) (r : Option POut) : forK ns r none = mp (fun o => ⟨o.fl, o.env⟩) .mk r := rfl
theorem forK_s {ns : List Nat} {i : Nat} {xs : List MV} (r : Option POut) (h : ns.contains i = false) : forK ns r (some (i, xs)) = mp (fun o => ⟨o.fl, o.env.set i (some (.own xs))⟩) .mk r := by
  unfold forK srcOk
  rw [if_pos (by simp only [h]; rfl)]
  rfl
/-- a for over what is no display of names -/
theorem ps_for (t k es body) (h : useV t k es env (sasL body) = none) : pS g cp np (.for_ t k es body) env = bd (fun r => bd (fun st => forK (slotsT t ++ sasL body) (forP t (fBdP g cp np body) st.1 (moveOut r.2 st.2)) st.2) .mk (itsP k r.2 r.1)) .mk (pRds g cp es env) := by
  simp only [pS, h]; rfl
@[simp] theorem ps_while (c body) : pS g cp np (.while_ c body) env = whileP (tstP g cp c) (fBdP g cp np body) WLIM env := by simp only [pS, bd, mp]; try rfl
@[simp] theorem ps_brk : pS g cp np .brk env = some ⟨.bk, env⟩ := by simp only [pS, bd, mp]
@[simp] theorem ps_cont : pS g cp np .cont env = some ⟨.ct, env⟩ := by simp only [pS, bd, mp]
@[simp] theorem ps_pass : pS g cp np .pass env = some ⟨.nx, env⟩ := by simp only [pS, bd, mp]
@[simp] theorem pSs_nil : pSs g cp np [] env = some ⟨.nx, env⟩ := by simp only [pSs]
@[simp] theorem pSs_cons (s ss) : pSs g cp np (s :: ss) env = bd (fun o => nxt (fun e => pSs g cp np ss e) .mk o) .mk (pS g cp np s env) := by simp only [pSs, bd]; rfl
theorem useV_no {t : Tg} {k : IK} {es : List E} {ns : List Nat} (h : dispV es = none) : useV t k es env ns = none := by
  unfold useV
  cases k <;> first | rfl | skip
  cases t <;> first | rfl | skip
  simp only [h]
@[simp] theorem useV1 (t es ns) : useV t .rng1 es env ns = none := rfl
@[simp] theorem useV2 (t es ns) : useV t .rng2 es env ns = none := rfl
@[simp] theorem useV3 (t es ns) : useV t .enum es env ns = none := rfl
@[simp] theorem useV4 (ts k es ns) : useV (.tup ts) k es env ns = none := by cases k <;> rfl
end
theorem gfP_int {env : PEnv} {i : Nat} {t : Int} (v : MV) (e : env[i]? = some (some (.d (.int t)))) : gfP i env v = liftPV env (gfM 0 [some (.int t)] (v, [])) := by simp only [gfP, e]
theorem augP_add (env : PEnv) (i : Nat) (a b : Int) : augP env i .add (.int a) (.int b) = some ⟨.nx, env.set i (some (.d (.int (a + b))))⟩ := rfl
theorem augP_sub (env : PEnv) (i : Nat) (a b : Int) : augP env i .sub (.int a) (.int b) = some ⟨.nx, env.set i (some (.d (.int (a - b))))⟩ := rfl
end MP
namespace MP
open PySem
structure Tp where
  xs : List Int
  place : Nat
  number : Int
  total : Int
def tp (t : Tp) : List MV := [.frl (t.xs.map .int), .int t.place, .int t.number, .int t.total]
def drw (t : Tp) (many : Int) : Int × Tp :=
  if t.number = 0 then
    let total := if (t.place : Int) < t.xs.length then t.total else (t.total * 48271 + t.place + 1) % 2147483647
    let number := if (t.place : Int) < t.xs.length then ab (t.xs.getD t.place 0) else total
    if number < 1000000000000000000 then
      (((number * 48271 + t.place * 69621 + 5) % 2147483647 * 69621) % 2147483629 % mx many 1, { t with place := t.place + 1, total := total })
    else (number % mx many 1, { t with place := t.place + 1, total := total, number := number / mx many 2 })
  else (t.number % mx many 1, { t with number := t.number / mx many 2 })
def fnDraw : FnI := { np := 2, names := ["tape", "many", "place", "number"], body := [
  .ite (.cmp .eq (.idx (.var 0) (.int 2)) (.int 0)) [
    .asg (.nm 2) (.idx (.var 0) (.int 1)),
    .asg (.nm 3) (.int 0),
    .ite (.cmp .lt (.var 2) (.bi .len [.idx (.var 0) (.int 0)])) [
      .asg (.nm 3) (.bi .abs [.bi .int [.idx (.idx (.var 0) (.int 0)) (.var 2)]])] [
      .setIx (.var 0) (.int 3) (.bin .mod (.bi .int [.bin .add (.bin .add (.bin .mul (.idx (.var 0) (.int 3)) (.int 48271)) (.var 2)) (.int 1)]) (.int 2147483647)),
      .asg (.nm 3) (.idx (.var 0) (.int 3))],
    .setIx (.var 0) (.int 1) (.bin .add (.var 2) (.int 1)),
    .ite (.cmp .lt (.var 3) (.bin .pow (.int 10) (.int 18))) [
      .asg (.nm 3) (.bin .mod (.bi .int [.bin .add (.bin .add (.bin .mul (.var 3) (.int 48271)) (.bin .mul (.var 2) (.int 69621))) (.int 5)]) (.int 2147483647)),
      .asg (.nm 3) (.bin .mod (.bi .int [.bin .mul (.var 3) (.int 69621)]) (.int 2147483629)),
      .ret (.bin .mod (.bi .int [.var 3]) (.bi .max [.var 1, .int 1]))] [],
    .setIx (.var 0) (.int 2) (.var 3)] [],
  .asg (.nm 3) (.idx (.var 0) (.int 2)),
  .setIx (.var 0) (.int 2) (.bin .fdiv (.var 3) (.bi .max [.var 1, .int 2])),
  .ret (.bin .mod (.bi .int [.var 3]) (.bi .max [.var 1, .int 1]))] }
theorem set_tp1 (e : PEnv) (t : Tp) (n : Nat) : setP (some (.own (tp t)) :: e) 0 (.int 1) (.int ((n : Int) + 1)) = some ⟨.nx, some (.own (tp { t with place := n + 1 })) :: e⟩ := by
  simp [setP, setM, tp, L2.ixN]
@[simp] theorem set_tp2 (e : PEnv) (t : Tp) (n : Int) : setP (some (.own (tp t)) :: e) 0 (.int 2) (.int n) = some ⟨.nx, some (.own (tp { t with number := n })) :: e⟩ := by
  simp [setP, setM, tp, L2.ixN]
@[simp] theorem set_tp3 (e : PEnv) (t : Tp) (n : Int) : setP (some (.own (tp t)) :: e) 0 (.int 3) (.int n) = some ⟨.nx, some (.own (tp { t with total := n })) :: e⟩ := by
  simp [setP, setM, tp, L2.ixN]
@[simp] theorem at_tp0 (t : Tp) : L2.atI (tp t) 0 = some (.frl (t.xs.map .int)) := rfl
@[simp] theorem at_tp1 (t : Tp) : L2.atI (tp t) 1 = some (.int t.place) := rfl
@[simp] theorem at_tp2 (t : Tp) : L2.atI (tp t) 2 = some (.int t.number) := rfl
@[simp] theorem at_tp3 (t : Tp) : L2.atI (tp t) 3 = some (.int t.total) := rfl
theorem p_draw {g : Mod} {hand : Hand} (hf : g.fns.lookup ("_law_draw" : Str) = some fnDraw) (hh : ∀ k args, hand k "_law_draw" args = none) (k : Nat) (t : Tp) (many : Int) (hm : many ≤ 16777216) :
    prun g hand (k + 1) "_law_draw" [.own (tp t), .d (.int many)] = some (.d (.int (drw t many).1), [tp (drw t many).2]) := by
  rw [prun_d hf (hh _ _) rfl rfl]
  unfold fnDraw drw
  have e1 : (t.place : Int) < t.xs.length → L2.atI (t.xs.map MV.int) (t.place : Int) = some (.int (t.xs.getD t.place 0)) := fun h => by
    rw [atI_get, List.getElem?_map]
    have h' : t.place < t.xs.length := by omega
    simp [List.getElem?_eq_getElem h']
  by_cases h0 : t.number = 0
  · by_cases h1 : (t.place : Int) < t.xs.length
    · by_cases h2 : ab (t.xs.getD t.place 0) < 1000000000000000000
      · simp -implicitDefEqProofs -dsimp [h0, h1, e1 h1, -List.getD_eq_getElem?_getD, h2, set_tp1]
      · simp -implicitDefEqProofs -dsimp [h0, h1, e1 h1, -List.getD_eq_getElem?_getD, h2, set_tp1, mx2_log hm]
    · by_cases h2 : (t.total * 48271 + t.place + 1) % 2147483647 < 1000000000000000000
      · simp -implicitDefEqProofs -dsimp [h0, h1, -List.getD_eq_getElem?_getD, h2, set_tp1]
      · simp -implicitDefEqProofs -dsimp [h0, h1, -List.getD_eq_getElem?_getD, h2, set_tp1, mx2_log hm]
  · have b0 : (t.number == 0) = false := by simpa using h0
    simp -implicitDefEqProofs -dsimp [h0, b0, mx2_log hm]
end MP
namespace MP
open PySem
theorem drw_lt (t : Tp) (many : Int) : 0 ≤ (drw t many).1 ∧ (drw t many).1 < mx many 1 := by
  have p := mx1 many
  have key : ∀ x : Int, 0 ≤ x % mx many 1 ∧ x % mx many 1 < mx many 1 := fun x => ⟨Int.emod_nonneg _ (by omega), Int.emod_lt_of_pos _ p⟩
  unfold drw
  split
  · simp only
    split <;> split <;> exact key _
  · exact key _
section
variable {g : Mod} {hand : Hand} (hf : g.fns.lookup ("_law_draw" : Str) = some fnDraw) (hh : ∀ k args, hand k "_law_draw" args = none)
include hf hh
/-- a draw -/
theorem draw_go {k : Nat} {t : Tp} {many : Int} {Q : PV × List (List MV) → Prop} (h0 : 1 ≤ many) (hm : many ≤ 16777216) (K : ∀ (d : Nat) (t' : Tp), (d : Int) < many → Q (.d (.int d), [tp t'])) :
    Ok Q .mk (prun g hand (k + 1) "_law_draw" [.own (tp t), .d (.int many)]) := by
  have q := drw_lt t many
  have hx : mx many 1 = many := by unfold mx; split <;> omega
  refine ok_of_eq (p_draw hf hh k t many hm) ?_
  have e : ((drw t many).1.toNat : Int) = (drw t many).1 := Int.toNat_of_nonneg q.1
  rw [← e]
  exact K _ _ (by omega)
end
theorem restP_1 (o env : PEnv) (i : Nat) : restP o env [i] = env.set i (match o[i]? with
    | some (some (.d v)) => some (.d v)
    | _ => none) := rfl
theorem wipeP_1 (env : PEnv) (i : Nat) : wipeP env [i] = env.set i none := rfl
section
variable {g : Mod} {cp : Str → List PV → Option (PV × List (List MV))}
theorem comp_go {α : Type} {i : Nat} {cs : List E} {elt : E} {env : PEnv} {items : List MV} {Q : List MV × PEnv → Prop} (emb : α → MV) (p : α → Bool) (f : α → MV) (as : List α) (hi : items = as.map emb)
    (h1 : ∀ a ∈ as, cTsP g cp cs (env.set i (some (.d (emb a)))) = some (.bl (p a), env.set i (some (.d (emb a)))))
    (h2 : ∀ a ∈ as, p a = true → cElP g cp elt (env.set i (some (.d (emb a)))) = some (f a, env.set i (some (.d (emb a)))))
    (K : ∀ env', (∀ o, restP o env' [i] = restP o env [i]) → Q ((as.filter p).map f, env')) : Ok Q .mk (compP (.nm i) [i] (cTsP g cp cs) (cElP g cp elt) items [] env) := by
  subst hi
  have key : ∀ (as : List α) (acc : List MV) (env0 : PEnv), (∀ o, restP o env0 [i] = restP o env [i]) → (∀ x, env0.set i x = env.set i x) → (∀ a ∈ as, cTsP g cp cs (env.set i (some (.d (emb a)))) = some (.bl (p a), env.set i (some (.d (emb a))))) →
      (∀ a ∈ as, p a = true → cElP g cp elt (env.set i (some (.d (emb a)))) = some (f a, env.set i (some (.d (emb a))))) →
      ∃ env', compP (.nm i) [i] (cTsP g cp cs) (cElP g cp elt) (as.map emb) acc env0 = some (acc ++ (as.filter p).map f, env') ∧ ∀ o, restP o env' [i] = restP o env [i] := by
    intro as
    induction as with
    | nil => intro acc env0 r0 _ _ _; exact ⟨env0, by simp [compP], r0⟩
    | cons a as ih =>
      intro acc env0 r0 s0 h1 h2
      have e1 : bindP (.nm i) (emb a) (wipeP env0 [i]) = some (env.set i (some (.d (emb a)))) := by
        simp only [bindP, wipeP_1, List.set_set, s0]
      have r1 : ∀ o, restP o (env.set i (some (.d (emb a)))) [i] = restP o env [i] := fun o => by simp only [restP_1, List.set_set]
      have s1 : ∀ x, (env.set i (some (PV.d (emb a)))).set i x = env.set i x := fun x => List.set_set ..
      simp only [List.map_cons, compP, e1, Option.bind_some, h1 a List.mem_cons_self]
      cases hp : p a with
      | true =>
        simp only [h2 a List.mem_cons_self hp, Option.bind_some]
        obtain ⟨env', q1, q2⟩ := ih (acc ++ [f a]) _ r1 s1 (fun b hb => h1 b (List.mem_cons_of_mem _ hb)) fun b hb => h2 b (List.mem_cons_of_mem _ hb)
        exact ⟨env', by rw [q1]; simp [hp], q2⟩
      | false =>
        simp only
        obtain ⟨env', q1, q2⟩ := ih acc _ r1 s1 (fun b hb => h1 b (List.mem_cons_of_mem _ hb)) fun b hb => h2 b (List.mem_cons_of_mem _ hb)
        exact ⟨env', by rw [q1]; simp [hp], q2⟩
  obtain ⟨env', q1, q2⟩ := key as [] env (fun _ => rfl) (fun _ => rfl) h1 h2
  exact ⟨_, q1, by simpa using K env' q2⟩
theorem comp_map {α : Type} {i : Nat} {elt : E} {env : PEnv} {items : List MV} {Q : List MV × PEnv → Prop} (emb : α → MV) (f : α → MV) (as : List α) (hi : items = as.map emb)
    (h2 : ∀ a ∈ as, cElP g cp elt (env.set i (some (.d (emb a)))) = some (f a, env.set i (some (.d (emb a)))))
    (K : ∀ env', (∀ o, restP o env' [i] = restP o env [i]) → Q (as.map f, env')) : Ok Q .mk (compP (.nm i) [i] (cTsP g cp []) (cElP g cp elt) items [] env) :=
  comp_go emb (fun _ => true) f as hi (fun _ _ => rfl) (fun a ha _ => h2 a ha) fun env' he => by
    have : as.filter (fun _ => true) = as := List.filter_eq_self.mpr (by simp)
    rw [this]; exact K env' he
/-- each item takes draws from the tape in slot 0 -/
theorem comp_draws {i : Nat} {elt : E} {rest : PEnv} {items : List MV} {t : Tp} {Q : List MV × PEnv → Prop} (P : MV → Prop)
    (step : ∀ v ∈ items, ∀ t, Ok (fun r => P r.1 ∧ ∃ t', r.2 = (some (.own (tp t')) :: rest).set (i + 1) (some (.d v))) .mk (cElP g cp elt ((some (.own (tp t)) :: rest).set (i + 1) (some (.d v)))))
    (K : ∀ vs t' env', vs.length = items.length → (∀ x ∈ vs, P x) → (∀ o, restP o env' [i + 1] = restP o (some (.own (tp t')) :: rest) [i + 1]) → Q (vs, env')) :
    Ok Q .mk (compP (.nm (i + 1)) [i + 1] (cTsP g cp []) (cElP g cp elt) items [] (some (.own (tp t)) :: rest)) := by
  have key : ∀ (items acc : List MV) (t : Tp) (env0 : PEnv), (∀ o, restP o env0 [i + 1] = restP o (some (.own (tp t)) :: rest) [i + 1]) → (∀ x, env0.set (i + 1) x = (some (.own (tp t)) :: rest).set (i + 1) x) →
      (∀ v ∈ items, ∀ t, Ok (fun r => P r.1 ∧ ∃ t', r.2 = (some (.own (tp t')) :: rest).set (i + 1) (some (.d v))) .mk (cElP g cp elt ((some (.own (tp t)) :: rest).set (i + 1) (some (.d v))))) →
      ∃ vs t' env', compP (.nm (i + 1)) [i + 1] (cTsP g cp []) (cElP g cp elt) items acc env0 = some (acc ++ vs, env') ∧ vs.length = items.length ∧ (∀ x ∈ vs, P x) ∧ ∀ o, restP o env' [i + 1] = restP o (some (.own (tp t')) :: rest) [i + 1] := by
    intro items
    induction items with
    | nil => intro acc t env0 r0 _ _; exact ⟨[], t, env0, by simp [compP], rfl, by simp, r0⟩
    | cons v items ih =>
      intro acc t env0 r0 s0 h1
      obtain ⟨⟨w, e'⟩, e2, hw, t1, rfl⟩ := h1 v List.mem_cons_self t
      have e1 : bindP (.nm (i + 1)) v (wipeP env0 [i + 1]) = some ((some (.own (tp t)) :: rest).set (i + 1) (some (.d v))) := by
        simp only [bindP, wipeP_1, List.set_set, s0]
      obtain ⟨vs, t2, env', q1, q2, q3, q4⟩ := ih (acc ++ [w]) t1 _ (fun o => by simp only [restP_1, List.set_set]) (fun x => List.set_set ..) fun u hu => h1 u (List.mem_cons_of_mem _ hu)
      refine ⟨w :: vs, t2, env', ?_, by simp [q2], fun x hx => ?_, q4⟩
      · simp only [compP, e1, Option.bind_some, cTsP_nil, e2]
        rw [q1]; simp
      · rcases List.mem_cons.mp hx with rfl | z
        · exact hw
        · exact q3 x z
  obtain ⟨vs, t', env', q1, q2, q3, q4⟩ := key items [] t _ (fun _ => rfl) (fun _ => rfl) step
  exact ⟨_, q1, K _ _ _ (by simpa using q2) (by simpa using q3) q4⟩
theorem for_go {t : Tg} {body : PEnv → Option POut} {items : List MV} {env : PEnv} {Q : POut → Prop} (I : List MV → PEnv → Prop) (R : PV → PEnv → Prop) (h0 : I items env)
    (step : ∀ v vs e, I (v :: vs) e → Ok (fun e1 => Ok (fun o => ((o.fl = .nx ∨ o.fl = .ct) ∧ I vs o.env) ∨ (o.fl = .bk ∧ I [] o.env) ∨ ∃ w, o.fl = .rt w ∧ R w o.env) .mk (body e1)) .mk (bindP t v e))
    (K1 : ∀ e, I [] e → Q ⟨.nx, e⟩) (K2 : ∀ w e, R w e → Q ⟨.rt w, e⟩) : Ok Q .mk (forP t body items env) := by
  have key : ∀ (items : List MV) (env : PEnv), I items env → Ok Q .mk (forP t body items env) := by
    intro items
    induction items with
    | nil => intro env hi; exact ⟨_, by simp only [forP], K1 env hi⟩
    | cons v vs ih =>
      intro env hi
      obtain ⟨e1, q1, o, q2, q3⟩ := step v vs env hi
      simp only [forP, q1, Option.bind_some, q2]
      obtain ⟨fl, oe⟩ := o
      rcases q3 with ⟨q | q, q4⟩ | ⟨q, q4⟩ | ⟨w, q, q4⟩
      · simp only at q; subst q; exact ih oe q4
      · simp only at q; subst q; exact ih oe q4
      · simp only at q; subst q; exact ⟨_, rfl, K1 oe q4⟩
      · simp only at q; subst q; exact ⟨_, rfl, K2 w oe q4⟩
  exact key items env h0
/-- a loop that runs to its end or gives an answer -/
theorem for_all {t : Tg} {body : PEnv → Option POut} {items : List MV} {env : PEnv} {Q : POut → Prop} (I : List MV → PEnv → Prop) (h0 : I items env)
    (step : ∀ v vs e, I (v :: vs) e → Ok (fun e1 => Ok (fun o => (o.fl = .nx ∨ o.fl = .ct) ∧ I vs o.env) .mk (body e1)) .mk (bindP t v e))
    (K1 : ∀ e, I [] e → Q ⟨.nx, e⟩) : Ok Q .mk (forP t body items env) :=
  for_go I (fun _ _ => False) h0 (fun v vs e hi => (step v vs e hi).imp fun e1 h => h.imp fun o h => .inl h) K1 (fun _ _ h => h.elim)
end
section
theorem for_inv {t : Tg} {body : PEnv → Option POut} {items : List MV} {env : PEnv} {Q : POut → Prop} (I : List MV → PEnv → Prop) (h0 : I items env)
    (step : ∀ v vs e, I (v :: vs) e → Ok (fun e1 => Ok (fun o => (o.fl = .nx ∨ o.fl = .ct) ∧ Hid' (I vs o.env) .mk) .mk (body e1)) .mk (bindP t v e))
    (K1 : ∀ e, I [] e → Q ⟨.nx, e⟩) : Ok Q .mk (forP t body items env) :=
  for_all I h0 (fun v vs e hi => (step v vs e hi).imp fun e1 h => h.imp fun o h => ⟨h.1, h.2.1⟩) K1
theorem for_inv2 {t : Tg} {body : PEnv → Option POut} {items : List MV} {env : PEnv} {Q : POut → Prop} (I : List MV → PEnv → Prop) (R : PV → PEnv → Prop) (h0 : I items env)
    (step : ∀ v vs e, I (v :: vs) e → Ok (fun e1 => Ok (fun o => ((o.fl = .nx ∨ o.fl = .ct) ∧ Hid' (I vs o.env) .mk) ∨ (o.fl = .bk ∧ Hid' (I [] o.env) .mk) ∨ ∃ w, o.fl = .rt w ∧ Hid' (R w o.env) .mk) .mk (body e1)) .mk (bindP t v e))
    (K1 : ∀ e, I [] e → Q ⟨.nx, e⟩) (K2 : ∀ w e, R w e → Q ⟨.rt w, e⟩) : Ok Q .mk (forP t body items env) :=
  for_go I R h0 (fun v vs e hi => (step v vs e hi).imp fun e1 h => h.imp fun o h => by
    rcases h with h | h | ⟨w, h⟩
    · exact .inl ⟨h.1, h.2.1⟩
    · exact .inr (.inl ⟨h.1, h.2.1⟩)
    · exact .inr (.inr ⟨w, h.1, h.2.1⟩)) K1 K2
variable {g : Mod} {cp : Str → List PV → Option (PV × List (List MV))}
/-- each item takes draws from the tape in slot 0 -/
theorem comp_dr {i : Nat} {elt : E} {rest : PEnv} {items : List MV} {t : Tp} {Q : List MV × PEnv → Prop} (P : MV → Prop)
    (step : ∀ v ∈ items, ∀ t, Ok (fun r => Hid' (P r.1 ∧ ∃ t', r.2 = (some (.own (tp t')) :: rest).set (i + 1) (some (.d v))) .mk) .mk (cElP g cp elt ((some (.own (tp t)) :: rest).set (i + 1) (some (.d v)))))
    (K : ∀ vs t' env', vs.length = items.length → (∀ x ∈ vs, P x) → (∀ o, restP o env' [i + 1] = restP o (some (.own (tp t')) :: rest) [i + 1]) → Q (vs, env')) :
    Ok Q .mk (compP (.nm (i + 1)) [i + 1] (cTsP g cp []) (cElP g cp elt) items [] (some (.own (tp t)) :: rest)) :=
  comp_draws P (fun v hv t => (step v hv t).imp fun r h => h.1) K
end
theorem mem_getD {α : Type} {ys : List α} {n : Nat} {z : α} (h : n < ys.length) : ys.getD n z ∈ ys := by
  rw [List.getD_eq_getElem?_getD, List.getElem?_eq_getElem h]
  exact List.getElem_mem h
theorem atI_nn {α : Type} {ys : List α} {d : Nat} (z : α) (h1 : d < ys.length) : L2.atI ys (d : Int) = some (ys.getD d z) := by
  rw [atI_nat h1, List.getD_eq_getElem?_getD, List.getElem?_eq_getElem h1]; rfl
theorem rng1_items {n : Nat} (hn : n ≤ 16777216) (h : MH) : itsM .rng1 h [.int n] = some ⟨(List.range n).map fun i => MV.int ((i : Nat) : Int), none⟩ := by
  simp only [itsM]
  rw [if_pos ⟨by show (n : Int) ≤ 16777216; omega, by omega⟩]
  simp
theorem map_erase {α β : Type} (f : α → β) : ∀ (l : List α) (n : Nat), (l.eraseIdx n).map f = (l.map f).eraseIdx n
  | [], _ => by simp
  | a :: l, 0 => by simp
  | a :: l, n + 1 => by simp [map_erase f l n]
def fnTurns : FnI := { np := 2, names := ["tape", "many", "left", "turns", "k"], body := [
  .asg (.nm 2) (.lrng .rng1 [.var 1]),
  .asg (.nm 3) (.lst []),
  .for_ (.nm 4) .rng1 [.var 1] [
    .ex (.meth .append (.var 3) [.meth .pop (.var 2) [.call "_law_draw" [.var 0, .bi .len [.var 2]]]])],
  .ret (.frz (.slice (.var 3) (.non) (.idx (.frz (.lst [.var 1, .var 1, .int 1])) (.call "_law_draw" [.var 0, .int 3]))))] }
section
variable {g : Mod} {hand : Hand} (hf : g.fns.lookup ("_law_draw" : Str) = some fnDraw) (hh : ∀ k args, hand k "_law_draw" args = none)
include hf hh
theorem turns_ok (hft : g.fns.lookup ("_law_turns" : Str) = some fnTurns) (hht : ∀ k args, hand k "_law_turns" args = none) (k : Nat) (t : Tp) (many : Nat) (hm : 1 ≤ many) (hz : many ≤ 1000) {Q : PV × List (List MV) → Prop}
    (K : ∀ (zs : List Nat) (t' : Tp), zs.length ≤ many → (∀ z ∈ zs, z < many) → Q (.d (.frl (zs.map fun z => .int (z : Nat))), [tp t'])) :
    Ok Q .mk (prun g hand (k + 2) "_law_turns" [.own (tp t), .d (.int many)]) := by
  rw [prun_d hft (hht _ _) rfl rfl]
  unfold fnTurns
  have r1 := rng1_items (n := many) (by omega) []
  simp -implicitDefEqProofs -dsimp [r1]
  rw [ps_for _ _ _ _ _ _ _ _ rfl]
  simp -implicitDefEqProofs -dsimp [r1]
  refine for_all (fun its e => ∃ (t : Tp) (l o : List Nat) (y : Option PV), e = [some (.own (tp t)), some (.d (.int many)), some (.own (l.map fun z => .int (z : Nat))), some (.own (o.map fun z => .int (z : Nat))), y] ∧ its.length = l.length ∧ l.length + o.length = many ∧ (∀ z ∈ l, z < many) ∧ ∀ z ∈ o, z < many)
    ⟨t, List.range many, [], none, by simp, by simp, by simp, by simp, by simp⟩ ?_ ?_
  · rintro v vs e ⟨t, l, o, y, rfl, h1, h2, h3, h4⟩
    have hl : l ≠ [] := fun z => by rw [z] at h1; simp at h1
    have hl1 : 1 ≤ l.length := List.length_pos_iff.mpr hl
    simp -implicitDefEqProofs -dsimp
    refine draw_go hf hh (by omega) (by omega) fun d t' hd => ?_
    have hd' : d < l.length := by omega
    simp -implicitDefEqProofs -dsimp
    rw [methP_pop (z := .non) _ (l.map fun z => MV.int (z : Nat)) (by simp) (by omega) (by simpa using hd) (by simp; omega)]
    simp -implicitDefEqProofs -dsimp [-List.getD_eq_getElem?_getD]
    rw [methP_app _ _ (o.map fun z => MV.int (z : Nat)) (by simp) (by simp; show _ < 16777216; omega)]
    simp -implicitDefEqProofs -dsimp [-List.getD_eq_getElem?_getD]
    refine ⟨t', l.eraseIdx d, o ++ [l.getD d 0], ⟨rfl, ?_, ?_⟩, ?_, ?_, ?_, ?_⟩
    · exact (map_erase _ _ _).symm
    · rw [List.map_append]; congr 1; simp [hd']
    · rw [List.length_eraseIdx_of_lt hd']; simp at h1; omega
    · rw [List.length_eraseIdx_of_lt hd']; simp; omega
    · exact fun z hz => h3 z (List.mem_of_mem_eraseIdx hz)
    · intro z hz
      rcases List.mem_append.mp hz with hz | hz
      · exact h4 z hz
      · rw [List.mem_singleton.mp hz]; exact h3 _ (mem_getD hd')
  · rintro e ⟨t, l, o, y, rfl, h1, h2, h3, h4⟩
    simp -implicitDefEqProofs -dsimp
    refine draw_go hf hh (by omega) (by omega) fun d t' hd => ?_
    have h3' : d = 0 ∨ d = 1 ∨ d = 2 := by omega
    have fin : ∀ m : Int, Q (.d (.frl (cutM (o.map fun z => MV.int (z : Nat)) none (some m))), [tp t']) := fun m => by
      have : cutM (o.map fun z => MV.int (z : Nat)) none (some m) = ((o.drop (HT.sIx o.length 0 none)).take (HT.sIx o.length o.length (some m) - HT.sIx o.length 0 none)).map fun z => MV.int (z : Nat) := by
        simp [cutM, List.map_drop, List.map_take]
      rw [this]
      refine K _ t' ?_ fun z hz => h4 z (List.mem_of_mem_drop (List.mem_of_mem_take hz))
      rw [List.length_take, List.length_drop]; omega
    rcases h3' with rfl | rfl | rfl <;> simp -implicitDefEqProofs -dsimp [L2.atI, L2.ixN] <;> exact fin _
end
end MP
namespace K56
open PySem
def fn_changed : MP.FnI := { np := 3, names := ["row", "place", "value"], body := [
  .ret (.bin .add (.bin .add (.slice (.var 0) .non (.var 1)) (.tup [.var 2])) (.slice (.var 0) (.bin .add (.var 1) (.int 1)) .non))] }
def fn_size_of : MP.FnI := { np := 1, names := ["datum", "part"], body := [
  .ite (.isi (.var 0) .tuple) [
    .ret (.bi .sum [.frz (.comp (.call "size_of" [.var 1]) (.nm 1) .ex [.var 0] [] [("part", 1)])])] [],
  .ret (.int 1)] }
def fn_with_entry : MP.FnI := { np := 2, names := ["vault", "row", "secrets", "entries"], body := [
  .asg (.tup [.nm 2, .nm 3]) (.var 0),
  .ret (.tup [.tup [.var 2, .bin .add (.var 3) (.tup [.var 1])], .bi .len [.var 3]])] }
def fn_row_of : MP.FnI := { np := 3, names := ["vault", "entry", "word", "entries"], body := [
  .asg (.nm 3) (.idx (.var 0) (.int 1)),
  .ite (.and (.cmp .lt (.var 1) (.bi .len [.var 3])) (.cmp .eq (.idx (.idx (.var 3) (.var 1)) (.int 0)) (.var 2))) [
    .ret (.idx (.var 3) (.var 1))] [],
  .ret (.non)] }
def fn_draw : MP.FnI := { np := 1, names := ["vault"], body := [
  .ret (.call "with_entry" [.var 0, .tup [.str "drawn"]])] }
def fn_seal : MP.FnI := { np := 5, names := ["vault", "secret", "number", "header", "content", "grown", "entry"], body := [
  .asg (.tup [.nm 5, .nm 6]) (.call "with_entry" [.var 0, .tup [.str "box", .var 1, .var 2, .var 3, .var 4]]),
  .ret (.tup [.var 5, .tup [.var 6, .bin .add (.call "size_of" [.var 4]) (.int 2)]])] }
def fn_unseal : MP.FnI := { np := 4, names := ["vault", "secret", "header", "box", "entry", "size", "row", "_", "key", "number", "told", "content"], body := [
  .asg (.tup [.nm 4, .nm 5]) (.var 3),
  .asg (.nm 6) (.call "row_of" [.var 0, .var 4, .str "box"]),
  .ite (.cmp .isN (.var 6) (.non)) [
    .ret (.non)] [],
  .asg (.tup [.nm 7, .nm 8, .nm 9, .nm 10, .nm 11]) (.var 6),
  .ite (.or (.cmp .ne (.var 8) (.var 1)) (.or (.cmp .ne (.var 10) (.var 2)) (.cmp .ne (.var 5) (.bin .add (.call "size_of" [.var 11]) (.int 2))))) [
    .ret (.non)] [],
  .ret (.tup [.var 9, .var 11])] }
def fn_make_identifier : MP.FnI := { np := 3, names := ["vault", "ring", "server", "box"], body := [
  .ite (.or (.cmp .isN (.var 1) (.non)) (.not (.idx (.var 1) (.int 0)))) [
    .ret (.call "draw" [.var 0])] [],
  .asg (.tup [.nm 0, .nm 3]) (.call "seal" [.var 0, .idx (.idx (.var 1) (.int 0)) (.int 0), .int 0, .glob "ROUTE_HEADER", .tup [.var 2]]),
  .ret (.tup [.var 0, .idx (.var 3) (.int 0)])] }
def fn_names_server : MP.FnI := { np := 1, names := ["content"], body := [
  .ite (.or (.not (.isi (.var 0) .tuple)) (.cmp .ne (.bi .len [.var 0]) (.int 1))) [
    .ret (.bl false)] [],
  .ret (.and (.isi (.idx (.var 0) (.int 0)) .int) (.cmp .le (.idx (.var 0) (.int 0)) (.glob "GREATEST_SERVER")))] }
def fn_read_identifier : MP.FnI := { np := 3, names := ["vault", "ring", "value", "key", "opened"], body := [
  .for_ (.nm 3) .ex [.idx (.var 1) (.int 0)] [
    .asg (.nm 4) (.call "unseal" [.var 0, .var 3, .glob "ROUTE_HEADER", .tup [.var 2, .glob "ROUTE_BOX_SIZE"]]),
    .ite (.and (.cmp .notN (.var 4) (.non)) (.call "names_server" [.idx (.var 4) (.int 1)])) [
      .ret (.idx (.idx (.var 4) (.int 1)) (.int 0))] []],
  .ret (.non)] }
def fn_new_identifiers : MP.FnI := { np := 3, names := ["role", "own", "target"], body := [
  .ite (.cmp .eq (.var 0) (.str "client")) [
    .ret (.tup [.tup [.tup [.int 0, .var 1]], .int 1, .tup [], .tup [], .var 2])] [],
  .ret (.tup [.tup [.tup [.int 0, .var 1]], .int 1, .tup [.tup [.int 0, .var 2]], .tup [], .non])] }
def fn_value_of : MP.FnI := { np := 2, names := ["pairs", "sequence", "known", "value"], body := [
  .for_ (.tup [.nm 2, .nm 3]) .ex [.var 0] [
    .ite (.cmp .eq (.var 2) (.var 1)) [
      .ret (.var 3)] []],
  .ret (.non)] }
def fn_issue_value : MP.FnI := { np := 2, names := ["identifiers", "value", "own", "following", "theirs", "retired", "first"], body := [
  .asg (.tup [.nm 2, .nm 3, .nm 4, .nm 5, .nm 6]) (.var 0),
  .ret (.tup [.bin .add (.var 2) (.tup [.tup [.var 3, .var 1]]), .bin .add (.var 3) (.int 1), .var 4, .var 5, .var 6])] }
def fn_take_identifier : MP.FnI := { np := 3, names := ["identifiers", "sequence", "value", "own", "following", "theirs", "retired", "first", "known", "pair"], body := [
  .asg (.tup [.nm 3, .nm 4, .nm 5, .nm 6, .nm 7]) (.var 0),
  .asg (.nm 8) (.bin .add (.var 5) (.var 6)),
  .ite (.cmp .isin (.var 1) (.frz (.comp (.idx (.var 9) (.int 0)) (.nm 9) .ex [.var 8] [] [("pair", 9)]))) [
    .ret (.ife (.cmp .isin (.tup [.var 1, .var 2]) (.var 8)) (.var 0) (.non))] [],
  .ite (.or (.cmp .eq (.var 2) (.var 7)) (.or (.cmp .isin (.var 2) (.frz (.comp (.idx (.var 9) (.int 1)) (.nm 9) .ex [.var 8] [] [("pair", 9)]))) (.cmp .ge (.bi .len [.var 5]) (.glob "MOST_THEIRS")))) [
    .ret (.non)] [],
  .ret (.tup [.var 3, .var 4, .bin .add (.var 5) (.tup [.tup [.var 1, .var 2]]), .var 6, .var 7])] }
def fn_take_retire : MP.FnI := { np := 2, names := ["identifiers", "sequence", "own", "following", "theirs", "retired", "first"], gen := true, body := [
  .asg (.tup [.nm 2, .nm 3, .nm 4, .nm 5, .nm 6]) (.var 0),
  .ite (.cmp .ge (.var 1) (.var 3)) [
    .ret (.non)] [],
  .ret (.tup [.gflt 1 (.var 2), .var 3, .var 4, .var 5, .var 6])] }
def fn_retire_theirs : MP.FnI := { np := 2, names := ["identifiers", "sequence", "own", "following", "theirs", "retired", "first", "left"], gen := true, body := [
  .asg (.tup [.nm 2, .nm 3, .nm 4, .nm 5, .nm 6]) (.var 0),
  .asg (.nm 7) (.gflt 1 (.var 4)),
  .ret (.tup [.var 2, .var 3, .var 7, .bin .add (.var 5) (.tup [.tup [.var 1, .call "value_of" [.var 4, .var 1]]]), .var 6])] }
def fn_route_datagram : MP.FnI := { np := 4, names := ["vault", "ring", "servers", "datagram", "level", "target", "mark", "load", "server"], body := [
  .asg (.tup [.nm 4, .nm 5, .nm 6, .nm 7]) (.idx (.var 3) (.int 0)),
  .asg (.nm 8) (.call "read_identifier" [.var 0, .var 1, .var 5]),
  .ite (.cmp .notN (.var 8) (.non)) [
    .ret (.ife (.cmp .isin (.var 8) (.var 2)) (.var 8) (.non))] [],
  .ite (.cmp .eq (.var 4) (.str "app")) [
    .ret (.non)] [],
  .ret (.idx (.var 2) (.bin .mod (.var 5) (.bi .len [.var 2])))] }
def fn_new_controller : MP.FnI := { np := 3, names := ["rule", "least", "window"], body := [
  .ret (.tup [.var 0, .var 1, .var 2, .bl true, .int 0, .int 0, .int 0, .int 0])] }
def fn_new_estimate : MP.FnI := { np := 1, names := ["trip"], body := [
  .ret (.tup [.bl false, .var 0, .var 0, .bin .fdiv (.var 0) (.int 2), .var 0])] }
def fn_first_path : MP.FnI := { np := 5, names := ["role", "profile", "rule", "local", "remote", "total", "each", "full", "delay", "trip", "idle", "is_client", "controller", "before"], body := [
  .asg (.tup [.nm 5, .nm 6, .nm 7, .nm 8, .nm 9, .nm 10]) (.var 1),
  .asg (.nm 11) (.cmp .eq (.var 0) (.str "client")),
  .asg (.nm 12) (.call "new_controller" [.var 2, .bin .mul (.int 2) (.var 7), .bin .mul (.int 4) (.var 7)]),
  .asg (.nm 13) (.tup [.var 3, .var 4, .var 11, .not (.var 11), .int 0, .int 0, .non, .int 0, .bl false, .tup []]),
  .ret (.bin .add (.var 13) (.tup [.int 0, .int 0, .bl false, .bl false, .call "new_estimate" [.var 9], .var 12, .int 0, .int 0]))] }
def fn_further_path : MP.FnI := { np := 8, names := ["role", "profile", "rule", "local", "remote", "theirs", "ours", "replaces", "path"], body := [
  .asg (.nm 8) (.call "first_path" [.var 0, .var 1, .var 2, .var 3, .var 4]),
  .asg (.nm 8) (.call "changed" [.call "changed" [.var 8, .glob "VALIDATED", .bl false], .glob "DUE", .bl true]),
  .ret (.call "changed" [.call "changed" [.call "changed" [.var 8, .glob "THEIRS", .var 5], .glob "OURS", .var 6], .glob "REPLACES", .var 7])] }
def fn_allowance : MP.FnI := { np := 1, names := ["path"], body := [
  .ite (.or (.idx (.var 0) (.glob "VALIDATED")) (.not (.idx (.var 0) (.glob "LIMITED")))) [
    .ret (.non)] [],
  .ret (.bi .max [.int 0, .bin .sub (.bin .mul (.glob "AMPLIFICATION") (.idx (.var 0) (.glob "RECEIVED"))) (.idx (.var 0) (.glob "SENT"))])] }
def fn_take_response : MP.FnI := { np := 2, names := ["path", "value", "challenge"], body := [
  .asg (.nm 2) (.idx (.var 0) (.glob "CHALLENGE")),
  .ite (.or (.cmp .isN (.var 2) (.non)) (.cmp .ne (.idx (.var 2) (.int 0)) (.var 1))) [
    .ret (.var 0)] [],
  .ret (.call "changed" [.call "changed" [.call "changed" [.var 0, .glob "VALIDATED", .bl true], .glob "CHALLENGE", .non], .glob "DUE", .bl false])] }
def fn_take_challenge : MP.FnI := { np := 2, names := ["path", "value", "responses"], body := [
  .asg (.nm 2) (.bin .add (.idx (.var 0) (.glob "RESPONSES")) (.tup [.var 1])),
  .ret (.call "changed" [.var 0, .glob "RESPONSES", .slice (.var 2) (.neg (.glob "MOST_RESPONSES")) .non])] }
def fn_can_be_used : MP.FnI := { np := 1, names := ["path"], body := [
  .ret (.and (.idx (.var 0) (.glob "VALIDATED")) (.and (.not (.idx (.var 0) (.glob "GIVEN_UP"))) (.cmp .lt (.idx (.var 0) (.glob "ALARMS")) (.glob "MOST_ALARMS"))))] }
def fn_is_free : MP.FnI := { np := 2, names := ["path", "full"], body := [
  .ret (.cmp .le (.bin .add (.idx (.var 0) (.glob "UNDER_WAY")) (.var 1)) (.idx (.idx (.var 0) (.glob "CONTROLLER")) (.int 2)))] }
def fn_main_of : MP.FnI := { np := 2, names := ["paths", "full", "ranks", "number", "path", "smoothed", "worse"], body := [
  .asg (.nm 2) (.lst []),
  .for_ (.tup [.nm 3, .nm 4]) .enum [.var 0] [
    .ite (.not (.idx (.var 4) (.glob "GIVEN_UP"))) [
      .asg (.nm 5) (.idx (.idx (.var 4) (.glob "ESTIMATE")) (.int 2)),
      .asg (.nm 6) (.tup [.not (.call "can_be_used" [.var 4]), .not (.idx (.var 4) (.glob "VALIDATED")), .not (.call "is_free" [.var 4, .var 1])]),
      .ex (.meth .append (.var 2) [.bin .add (.var 6) (.tup [.var 5, .var 3])])] []],
  .ite (.not (.var 2)) [
    .ret (.non)] [],
  .ret (.idx (.bi .min [.var 2]) (.int 4))] }
def fn_unused_sequence : MP.FnI := { np := 2, names := ["paths", "identifiers", "used", "path", "sequence", "value"], body := [
  .asg (.nm 2) (.frz (.comp (.idx (.var 3) (.glob "THEIRS")) (.nm 3) .ex [.var 0] [] [("path", 3)])),
  .for_ (.tup [.nm 4, .nm 5]) .ex [.idx (.var 1) (.int 2)] [
    .ite (.cmp .notin (.var 4) (.var 2)) [
      .ret (.var 4)] []],
  .ret (.non)] }
def fn_law_tape : MP.FnI := { np := 1, names := ["script", "total", "cell"], body := [
  .asg (.nm 1) (.int 7),
  .for_ (.nm 2) .ex [.var 0] [
    .asg (.nm 1) (.bin .mod (.bi .int [.bin .add (.bin .mul (.var 1) (.int 31)) (.bi .abs [.bi .int [.var 2]])]) (.int 2147483647))],
  .ret (.lst [.frz (.bi .list [.var 0]), .int 0, .int 0, .var 1])] }
def fn_law_draw : MP.FnI := { np := 2, names := ["tape", "many", "place", "number"], body := [
  .ite (.cmp .eq (.idx (.var 0) (.int 2)) (.int 0)) [
    .asg (.nm 2) (.idx (.var 0) (.int 1)),
    .asg (.nm 3) (.int 0),
    .ite (.cmp .lt (.var 2) (.bi .len [.idx (.var 0) (.int 0)])) [
      .asg (.nm 3) (.bi .abs [.bi .int [.idx (.idx (.var 0) (.int 0)) (.var 2)]])] [
      .setIx (.var 0) (.int 3) (.bin .mod (.bi .int [.bin .add (.bin .add (.bin .mul (.idx (.var 0) (.int 3)) (.int 48271)) (.var 2)) (.int 1)]) (.int 2147483647)),
      .asg (.nm 3) (.idx (.var 0) (.int 3))],
    .setIx (.var 0) (.int 1) (.bin .add (.var 2) (.int 1)),
    .ite (.cmp .lt (.var 3) (.bin .pow (.int 10) (.int 18))) [
      .asg (.nm 3) (.bin .mod (.bi .int [.bin .add (.bin .add (.bin .mul (.var 3) (.int 48271)) (.bin .mul (.var 2) (.int 69621))) (.int 5)]) (.int 2147483647)),
      .asg (.nm 3) (.bin .mod (.bi .int [.bin .mul (.var 3) (.int 69621)]) (.int 2147483629)),
      .ret (.bin .mod (.bi .int [.var 3]) (.bi .max [.var 1, .int 1]))] [],
    .setIx (.var 0) (.int 2) (.var 3)] [],
  .asg (.nm 3) (.idx (.var 0) (.int 2)),
  .setIx (.var 0) (.int 2) (.bin .fdiv (.var 3) (.bi .max [.var 1, .int 2])),
  .ret (.bin .mod (.bi .int [.var 3]) (.bi .max [.var 1, .int 1]))] }
def fn_law_turns : MP.FnI := { np := 2, names := ["tape", "many", "left", "turns", "k"], body := [
  .asg (.nm 2) (.lrng .rng1 [.var 1]),
  .asg (.nm 3) (.lst []),
  .for_ (.nm 4) .rng1 [.var 1] [
    .ex (.meth .append (.var 3) [.meth .pop (.var 2) [.call "_law_draw" [.var 0, .bi .len [.var 2]]]])],
  .ret (.frz (.slice (.var 3) .non (.idx (.frz (.lst [.var 1, .var 1, .int 1])) (.call "_law_draw" [.var 0, .int 3]))))] }
def fn_law_whole : MP.FnI := { np := 1, names := ["told"], body := [
  .ret (.and (.isi (.var 0) .int) (.not (.isi (.var 0) .bool)))] }
def fn_law_same : MP.FnI := { np := 2, names := ["told", "due", "k", "kinds", "one"], body := [
  .ite (.isi (.var 1) .tuple) [
    .ite (.or (.not (.isi (.var 0) .tuple)) (.cmp .ne (.bi .len [.var 0]) (.bi .len [.var 1]))) [
      .ret (.bl false)] [],
    .ret (.cmp .notin (.bl false) (.frz (.comp (.call "_law_same" [.idx (.var 0) (.var 2), .idx (.var 1) (.var 2)]) (.nm 2) .rng1 [.bi .len [.var 1]] [] [("k", 2)])))] [],
  .ite (.or (.cmp .isN (.var 1) (.non)) (.cmp .isN (.var 0) (.non))) [
    .ret (.and (.cmp .isN (.var 1) (.non)) (.cmp .isN (.var 0) (.non)))] [],
  .asg (.nm 3) (.frz (.comp (.frz (.lst [.isi (.var 4) .bool, .isi (.var 4) .str, .isi (.var 4) .int])) (.nm 4) .ex [.frz (.lst [.var 0, .var 1])] [] [("one", 4)])),
  .ret (.and (.cmp .eq (.idx (.var 3) (.int 0)) (.idx (.var 3) (.int 1))) (.cmp .eq (.var 0) (.var 1)))] }
def fn_law_rule : MP.FnI := { np := 2, names := ["tape", "large", "rule_of", "keep", "less"], body := [
  .asg (.nm 2) (.bin .add (.int 1) (.call "_law_draw" [.var 0, .ife (.var 1) (.int 16) (.int 6)])),
  .asg (.nm 3) (.idx (.frz (.lst [.var 2, .int 0, .call "_law_draw" [.var 0, .bin .add (.var 2) (.int 1)], .call "_law_draw" [.var 0, .var 2], .call "_law_draw" [.var 0, .var 2]])) (.call "_law_draw" [.var 0, .int 5])),
  .asg (.nm 4) (.idx (.frz (.lst [.int 0, .int 0, .int 0, .bin .add (.int 1) (.call "_law_draw" [.var 0, .int 3]), .bin .add (.int 1) (.call "_law_draw" [.var 0, .ife (.var 1) (.int 100) (.int 3)])])) (.call "_law_draw" [.var 0, .int 5])),
  .ret (.tup [.ife (.var 1) (.idx (.frz (.lst [.int 1, .bin .add (.int 1) (.call "_law_draw" [.var 0, .int 100]), .int 100])) (.call "_law_draw" [.var 0, .int 3])) (.bin .add (.int 1) (.call "_law_draw" [.var 0, .int 6])), .var 3, .var 2, .var 4])] }
def fn_law_new_identifiers : MP.FnI := { np := 3, names := ["role", "own", "aim"], body := [
  .ite (.cmp .eq (.var 0) (.str "client")) [
    .ret (.tup [.tup [.tup [.int 0, .var 1]], .int 1, .tup [], .tup [], .var 2])] [],
  .ret (.tup [.tup [.tup [.int 0, .var 1]], .int 1, .tup [.tup [.int 0, .var 2]], .tup [], .non])] }
def fn_law_issued : MP.FnI := { np := 2, names := ["ids", "value"], body := [
  .ret (.bin .add (.tup [.bin .add (.idx (.var 0) (.int 0)) (.tup [.tup [.idx (.var 0) (.int 1), .var 1]]), .bin .add (.idx (.var 0) (.int 1)) (.int 1)]) (.slice (.var 0) (.int 2) .non))] }
def fn_law_identifier_taken : MP.FnI := { np := 3, names := ["ids", "sequence", "value", "met", "pair"], body := [
  .asg (.nm 3) (.bin .add (.idx (.var 0) (.int 2)) (.idx (.var 0) (.int 3))),
  .ite (.cmp .isin (.tup [.var 1, .var 2]) (.var 3)) [
    .ret (.var 0)] [],
  .ite (.or (.cmp .gt (.bi .len [.frz (.comp (.var 4) (.nm 4) .ex [.var 3] [.or (.cmp .eq (.idx (.var 4) (.int 0)) (.var 1)) (.cmp .eq (.idx (.var 4) (.int 1)) (.var 2))] [("pair", 4)])]) (.int 0)) (.or (.cmp .eq (.var 2) (.idx (.var 0) (.int 4))) (.cmp .eq (.bi .len [.idx (.var 0) (.int 2)]) (.int 4)))) [
    .ret (.non)] [],
  .ret (.bin .add (.bin .add (.slice (.var 0) .non (.int 2)) (.tup [.bin .add (.idx (.var 0) (.int 2)) (.tup [.tup [.var 1, .var 2]])])) (.slice (.var 0) (.int 3) .non))] }
def fn_law_retire_taken : MP.FnI := { np := 2, names := ["ids", "sequence", "pair"], body := [
  .ite (.cmp .ge (.var 1) (.idx (.var 0) (.int 1))) [
    .ret (.non)] [],
  .ret (.bin .add (.tup [.bi .tuple [.frz (.comp (.var 2) (.nm 2) .ex [.idx (.var 0) (.int 0)] [.cmp .ne (.idx (.var 2) (.int 0)) (.var 1)] [("pair", 2)])]]) (.slice (.var 0) (.int 1) .non))] }
def fn_law_theirs_retired : MP.FnI := { np := 2, names := ["ids", "sequence", "gone", "pair"], body := [
  .asg (.nm 2) (.bi .tuple [.frz (.comp (.var 3) (.nm 3) .ex [.idx (.var 0) (.int 2)] [.cmp .eq (.idx (.var 3) (.int 0)) (.var 1)] [("pair", 3)])]),
  .ret (.bin .add (.slice (.var 0) .non (.int 2)) (.tup [.bi .tuple [.frz (.comp (.var 3) (.nm 3) .ex [.idx (.var 0) (.int 2)] [.cmp .ne (.idx (.var 3) (.int 0)) (.var 1)] [("pair", 3)])], .bin .add (.idx (.var 0) (.int 3)) (.var 2), .idx (.var 0) (.int 4)]))] }
def fn_law_frozen : MP.FnI := { np := 1, names := ["one", "part"], body := [
  .ret (.ife (.isi (.var 0) .list) (.bi .tuple [.frz (.comp (.call "_law_frozen" [.var 1]) (.nm 1) .ex [.var 0] [] [("part", 1)])]) (.var 0))] }
def fn_law_copied : MP.FnI := { np := 1, names := ["one", "part"], body := [
  .ret (.ife (.isi (.var 0) .list) (.comp (.frz (.call "_law_copied" [.var 1])) (.nm 1) .ex [.var 0] [] [("part", 1)]) (.var 0))] }
def fn_law_x_path : MP.FnI := { np := 8, names := ["role", "profile", "rule", "ends", "zero", "theirs", "ours", "replaces", "begun", "estimate", "control"], body := [
  .asg (.nm 8) (.frz (.lst [.idx (.var 3) (.int 0), .idx (.var 3) (.int 1), .and (.var 4) (.cmp .eq (.var 0) (.str "client")), .cmp .eq (.var 0) (.str "server"), .int 0, .int 0, .non, .int 0, .not (.var 4), .tup [], .var 5])),
  .asg (.nm 9) (.tup [.bl false, .idx (.var 1) (.int 4), .idx (.var 1) (.int 4), .bin .fdiv (.idx (.var 1) (.int 4)) (.int 2), .idx (.var 1) (.int 4)]),
  .asg (.nm 10) (.frz (.lst [.var 2, .bin .mul (.int 2) (.idx (.var 1) (.int 2)), .bin .mul (.int 4) (.idx (.var 1) (.int 2)), .bl true, .int 0, .int 0, .int 0, .int 0])),
  .ret (.bin .add (.var 8) (.frz (.lst [.var 6, .bl false, .var 7, .var 9, .var 10, .int 0, .int 0])))] }
def fn_law_x_main : MP.FnI := { np := 1, names := ["t", "full", "menu", "k", "path"], body := [
  .asg (.nm 1) (.idx (.idx (.var 0) (.int 1)) (.int 2)),
  .asg (.nm 2) (.lst []),
  .for_ (.nm 3) .rng1 [.bi .len [.idx (.var 0) (.int 8)]] [
    .asg (.nm 4) (.idx (.idx (.var 0) (.int 8)) (.var 3)),
    .ite (.not (.idx (.var 4) (.int 12))) [
      .ex (.meth .append (.var 2) [.tup [.or (.not (.idx (.var 4) (.int 2))) (.cmp .ge (.idx (.var 4) (.int 17)) (.int 3)), .not (.idx (.var 4) (.int 2)), .cmp .gt (.bin .add (.idx (.var 4) (.int 16)) (.var 1)) (.idx (.idx (.var 4) (.int 15)) (.int 2)), .idx (.idx (.var 4) (.int 14)) (.int 2), .var 3]])] []],
  .ret (.ife (.var 2) (.idx (.bi .min [.var 2]) (.int 4)) (.non))] }
def fn_law_vault : MP.FnI := { np := 1, names := ["tape", "many", "secrets", "k", "entries", "j", "server", "right", "menu"], body := [
  .asg (.nm 1) (.bin .add (.int 2) (.call "_law_draw" [.var 0, .int 3])),
  .asg (.nm 2) (.bi .tuple [.frz (.comp (.tup [.str "pair", .var 3]) (.nm 3) .rng1 [.var 1] [] [("k", 3)])]),
  .asg (.nm 4) (.comp (.tup [.str "public", .var 3]) (.nm 3) .rng1 [.var 1] [] [("k", 3)]),
  .for_ (.nm 5) .rng1 [.call "_law_draw" [.var 0, .int 15]] [
    .asg (.nm 3) (.call "_law_draw" [.var 0, .var 1]),
    .asg (.nm 6) (.idx (.frz (.lst [.int 0, .int 63, .call "_law_draw" [.var 0, .int 64]])) (.call "_law_draw" [.var 0, .int 3])),
    .asg (.nm 7) (.tup [.str "box", .var 3, .int 0, .tup [.str "route"], .tup [.var 6]]),
    .asg (.nm 8) (.frz (.lst [.var 7, .var 7, .var 7, .tup [.str "box", .var 3, .int 5, .tup [.str "route"], .tup [.var 6]], .tup [.str "box", .var 3, .int 0, .tup [.str "app", .int 4, .int 0], .tup [.var 6]]])),
    .asg (.nm 8) (.frz (.bin .add (.var 8) (.frz (.lst [.tup [.str "box", .var 3, .int 0, .tup [.str "route", .int 0], .tup [.var 6]], .tup [.str "box", .var 3, .int 0, .tup [], .tup [.var 6]], .tup [.str "box", .var 3, .int 0, .tup [.str "route"], .tup [.int 64]]])))),
    .asg (.nm 8) (.frz (.bin .add (.var 8) (.frz (.lst [.tup [.str "box", .var 3, .int 0, .tup [.str "route"], .tup [.var 6, .var 6]], .tup [.str "box", .var 3, .int 0, .tup [.str "route"], .tup []], .tup [.str "box", .var 3, .int 0, .tup [.str "route"], .tup [.str "a"]]])))),
    .asg (.nm 8) (.frz (.bin .add (.var 8) (.frz (.lst [.tup [.str "box", .var 3, .int 0, .tup [.str "route"], .var 6], .tup [.str "box", .var 3, .int 0, .tup [.str "route"], .tup [.tup [.var 6]]], .tup [.str "drawn"], .tup [.str "tag", .var 3, .tup [.var 6]]])))),
    .asg (.nm 8) (.frz (.bin .add (.var 8) (.frz (.lst [.tup [.str "signature", .var 3, .tup [.var 6]], .tup [.str "wrapped", .var 3, .tup [.str "route"], .int 0, .tup [.var 6]]])))),
    .ex (.meth .append (.var 4) [.idx (.var 8) (.call "_law_draw" [.var 0, .bi .len [.var 8]])])],
  .ret (.tup [.var 2, .bi .tuple [.var 4]])] }
def fn_law_ring : MP.FnI := { np := 2, names := ["tape", "vault", "left", "keys", "k"], body := [
  .asg (.nm 2) (.lrng .rng1 [.bi .len [.idx (.var 1) (.int 0)]]),
  .asg (.nm 3) (.lst []),
  .for_ (.nm 4) .rng1 [.call "_law_draw" [.var 0, .bin .add (.bi .len [.var 2]) (.int 1)]] [
    .ex (.meth .append (.var 3) [.meth .pop (.var 2) [.call "_law_draw" [.var 0, .bi .len [.var 2]]]])],
  .ret (.tup [.bi .tuple [.var 3], .bi .max [.bi .len [.var 3], .bin .add (.int 1) (.call "_law_draw" [.var 0, .int 4])]])] }
def fn_law_named : MP.FnI := { np := 3, names := ["vault", "ring", "value", "row"], body := [
  .ite (.cmp .ge (.var 2) (.bi .len [.idx (.var 0) (.int 1)])) [
    .ret (.non)] [],
  .asg (.nm 3) (.idx (.idx (.var 0) (.int 1)) (.var 2)),
  .ite (.or (.cmp .ne (.idx (.var 3) (.int 0)) (.str "box")) (.or (.cmp .notin (.idx (.var 3) (.int 1)) (.idx (.var 1) (.int 0))) (.or (.cmp .ne (.idx (.var 3) (.int 3)) (.tup [.str "route"])) (.or (.not (.isi (.idx (.var 3) (.int 4)) .tuple)) (.cmp .ne (.bi .len [.idx (.var 3) (.int 4)]) (.int 1)))))) [
    .ret (.non)] [],
  .ret (.ife (.and (.call "_law_whole" [.idx (.idx (.var 3) (.int 4)) (.int 0)]) (.cmp .le (.idx (.idx (.var 3) (.int 4)) (.int 0)) (.int 63))) (.idx (.idx (.var 3) (.int 4)) (.int 0)) (.non))] }
def fn_law_made : MP.FnI := { np := 3, names := ["vault", "ring", "server", "row"], body := [
  .asg (.nm 3) (.tup [.str "drawn"]),
  .ite (.and (.cmp .notN (.var 1) (.non)) (.idx (.var 1) (.int 0))) [
    .asg (.nm 3) (.tup [.str "box", .idx (.idx (.var 1) (.int 0)) (.int 0), .int 0, .tup [.str "route"], .tup [.var 2]])] [],
  .ret (.tup [.tup [.idx (.var 0) (.int 0), .bin .add (.idx (.var 0) (.int 1)) (.tup [.var 3])], .bi .len [.idx (.var 0) (.int 1)]])] }
def fn_law_target : MP.FnI := { np := 2, names := ["tape", "vault", "top"], body := [
  .asg (.nm 2) (.bi .len [.idx (.var 1) (.int 1)]),
  .ret (.idx (.frz (.lst [.call "_law_draw" [.var 0, .var 2], .call "_law_draw" [.var 0, .var 2], .call "_law_draw" [.var 0, .var 2], .var 2, .bin .add (.var 2) (.int 1), .int 999999999])) (.call "_law_draw" [.var 0, .int 6]))] }
def fn_law_reads : MP.FnI := { np := 3, names := ["tape", "vault", "ring", "other", "k", "value", "beside", "each"], body := [
  .asg (.nm 3) (.call "_law_ring" [.var 0, .var 1]),
  .for_ (.nm 4) .rng1 [.int 3] [
    .asg (.nm 5) (.call "_law_target" [.var 0, .var 1]),
    .asg (.nm 6) (.call "_law_target" [.var 0, .var 1]),
    .for_ (.nm 7) .ex [.frz (.lst [.tup [.var 2, .var 5], .tup [.var 3, .var 5], .tup [.var 2, .var 6], .tup [.tup [.tup [], .int 2], .var 5], .tup [.var 2, .var 5]])] [
      .ite (.not (.call "_law_same" [.call "read_identifier" [.var 1, .idx (.var 7) (.int 0), .idx (.var 7) (.int 1)], .call "_law_named" [.var 1, .idx (.var 7) (.int 0), .idx (.var 7) (.int 1)]])) [
        .ret (.bl false)] []]],
  .ret (.bl true)] }
def fn_law_makes : MP.FnI := { np := 3, names := ["tape", "vault", "ring", "server", "each", "grown", "value", "key", "later", "rings", "k", "one"], body := [
  .asg (.nm 3) (.idx (.frz (.lst [.int 0, .int 63, .call "_law_draw" [.var 0, .int 64]])) (.call "_law_draw" [.var 0, .int 3])),
  .for_ (.nm 4) .ex [.frz (.lst [.tup [.var 2, .var 3], .tup [.non, .var 3], .tup [.var 2, .bin .mod (.bi .int [.bin .add (.var 3) (.int 1)]) (.int 64)], .tup [.tup [.tup [], .int 3], .var 3], .tup [.var 2, .var 3]])] [
    .ite (.not (.call "_law_same" [.call "make_identifier" [.var 1, .idx (.var 4) (.int 0), .idx (.var 4) (.int 1)], .call "_law_made" [.var 1, .idx (.var 4) (.int 0), .idx (.var 4) (.int 1)]])) [
      .ret (.bl false)] []],
  .asg (.tup [.nm 5, .nm 6]) (.call "_law_made" [.var 1, .var 2, .var 3]),
  .asg (.nm 7) (.bi .len [.idx (.var 5) (.int 0)]),
  .asg (.nm 8) (.tup [.bin .add (.idx (.var 5) (.int 0)) (.tup [.tup [.str "pair", .bi .len [.idx (.var 5) (.int 1)]]]), .bin .add (.idx (.var 5) (.int 1)) (.tup [.tup [.str "public", .var 7], .tup [.str "drawn"]])]),
  .asg (.nm 9) (.frz (.lst [.var 2, .tup [.bin .add (.tup [.var 7]) (.slice (.idx (.var 2) (.int 0)) .non (.int 3)), .int 4], .tup [.tup [.var 7], .int 1], .tup [.slice (.idx (.var 2) (.int 0)) (.int 1) .non, .int 4], .call "_law_ring" [.var 0, .var 1]])),
  .for_ (.nm 10) .rng1 [.int 3] [
    .asg (.nm 11) (.idx (.var 9) (.call "_law_draw" [.var 0, .bi .len [.var 9]])),
    .ite (.not (.call "_law_same" [.call "read_identifier" [.var 8, .var 11, .var 6], .call "_law_named" [.var 8, .var 11, .var 6]])) [
      .ret (.bl false)] []],
  .ret (.call "_law_same" [.call "read_identifier" [.var 5, .var 2, .var 6], .ife (.idx (.var 2) (.int 0)) (.var 3) (.non)])] }
def fn_law_packet : MP.FnI := { np := 3, names := ["tape", "level", "aim"], body := [
  .ite (.cmp .eq (.var 1) (.str "hello")) [
    .ret (.tup [.str "hello", .var 2, .call "_law_draw" [.var 0, .int 9], .tup [.call "_law_draw" [.var 0, .int 5], .tup [.tup [.str "ping"]]]])] [],
  .ret (.tup [.var 1, .var 2, .call "_law_draw" [.var 0, .int 2], .tup [.call "_law_draw" [.var 0, .int 30], .bin .add (.int 3) (.call "_law_draw" [.var 0, .int 9])]])] }
def fn_law_routes : MP.FnI := { np := 3, names := ["tape", "vault", "ring", "left", "servers", "k", "met", "row", "server", "levels", "value", "level", "rest", "j", "named", "each", "due", "datagram"], body := [
  .asg (.nm 3) (.lrng .rng1 [.int 64]),
  .asg (.nm 4) (.lst []),
  .for_ (.nm 5) .rng1 [.bin .add (.int 1) (.call "_law_draw" [.var 0, .int 8])] [
    .ex (.meth .append (.var 4) [.meth .pop (.var 3) [.idx (.frz (.lst [.call "_law_draw" [.var 0, .bi .len [.var 3]], .int 0, .bin .sub (.bi .len [.var 3]) (.int 1)])) (.call "_law_draw" [.var 0, .int 3])]])],
  .asg (.nm 6) (.frz (.comp (.idx (.idx (.var 7) (.int 4)) (.int 0)) (.nm 7) .ex [.idx (.var 1) (.int 1)] [.and (.cmp .eq (.idx (.var 7) (.int 0)) (.str "box")) (.and (.cmp .eq (.idx (.var 7) (.int 3)) (.tup [.str "route"])) (.and (.isi (.idx (.var 7) (.int 4)) .tuple) (.cmp .eq (.bi .len [.idx (.var 7) (.int 4)]) (.int 1))))] [("row", 7)])),
  .for_ (.nm 8) .ex [.var 6] [
    .ite (.and (.call "_law_whole" [.var 8]) (.and (.cmp .lt (.var 8) (.int 64)) (.and (.cmp .notin (.var 8) (.var 4)) (.and (.cmp .lt (.bi .len [.var 4]) (.int 8)) (.cmp .eq (.call "_law_draw" [.var 0, .int 2]) (.int 0)))))) [
      .ex (.meth .append (.var 4) [.var 8])] []],
  .asg (.nm 4) (.bi .tuple [.var 4]),
  .asg (.nm 9) (.frz (.lst [.str "hello", .str "early", .str "app"])),
  .for_ (.nm 5) .rng1 [.int 3] [
    .asg (.nm 10) (.call "_law_target" [.var 0, .var 1]),
    .asg (.nm 11) (.idx (.var 9) (.call "_law_draw" [.var 0, .int 3])),
    .asg (.nm 12) (.bi .tuple [.frz (.comp (.call "_law_packet" [.var 0, .idx (.var 9) (.call "_law_draw" [.var 0, .int 3]), .call "_law_target" [.var 0, .var 1]]) (.nm 13) .rng1 [.call "_law_draw" [.var 0, .int 3]] [] [("j", 13)])]),
    .asg (.nm 14) (.call "_law_named" [.var 1, .var 2, .var 10]),
    .for_ (.nm 15) .ex [.frz (.lst [.tup [.var 11, .var 4, .var 2], .tup [.idx (.var 9) (.call "_law_draw" [.var 0, .int 3]), .var 4, .var 2], .tup [.var 11, .frz (.back (.var 4)), .var 2], .tup [.var 11, .var 4, .var 2]])] [
      .asg (.nm 16) (.ife (.cmp .ne (.idx (.var 15) (.int 0)) (.str "app")) (.idx (.idx (.var 15) (.int 1)) (.bin .mod (.bi .int [.var 10]) (.bi .len [.var 4]))) (.non)),
      .ite (.cmp .notN (.var 14) (.non)) [
        .asg (.nm 16) (.ife (.cmp .isin (.var 14) (.var 4)) (.var 14) (.non))] [],
      .asg (.nm 17) (.bin .add (.tup [.call "_law_packet" [.var 0, .idx (.var 15) (.int 0), .var 10]]) (.var 12)),
      .ite (.not (.call "_law_same" [.call "route_datagram" [.var 1, .idx (.var 15) (.int 2), .idx (.var 15) (.int 1), .var 17], .var 16])) [
        .ret (.bl false)] []]],
  .ret (.bl true)] }
def fn_law_id_deed : MP.FnI := { np := 3, names := ["tape", "ids", "fresh", "pairs", "one", "choice", "aim"], body := [
  .asg (.nm 3) (.frz (.bin .add (.frz (.bi .list [.bin .add (.idx (.var 1) (.int 2)) (.idx (.var 1) (.int 3))])) (.frz (.lst [.tup [.int 0, .int 4]])))),
  .asg (.nm 4) (.idx (.var 3) (.call "_law_draw" [.var 0, .bi .len [.var 3]])),
  .asg (.nm 5) (.call "_law_draw" [.var 0, .int 10]),
  .ite (.cmp .lt (.var 5) (.int 3)) [
    .ret (.tup [.str "take", .idx (.frz (.lst [.bin .add (.int 1) (.bi .len [.bin .add (.idx (.var 1) (.int 2)) (.idx (.var 1) (.int 3))]), .call "_law_draw" [.var 0, .int 9]])) (.call "_law_draw" [.var 0, .int 2]), .var 2])] [],
  .ite (.cmp .eq (.var 5) (.int 3)) [
    .ret (.tup [.str "take", .idx (.var 4) (.int 0), .idx (.var 4) (.int 1)])] [],
  .ite (.cmp .eq (.var 5) (.int 4)) [
    .ret (.tup [.str "take", .idx (.var 4) (.int 0), .var 2])] [],
  .ite (.cmp .eq (.var 5) (.int 5)) [
    .asg (.nm 6) (.ife (.cmp .notN (.idx (.var 1) (.int 4)) (.non)) (.idx (.var 1) (.int 4)) (.idx (.var 4) (.int 1))),
    .ret (.tup [.str "take", .bin .add (.int 50) (.call "_law_draw" [.var 0, .int 9]), .idx (.frz (.lst [.idx (.var 4) (.int 1), .var 6])) (.call "_law_draw" [.var 0, .int 2])])] [],
  .ite (.cmp .lt (.var 5) (.int 8)) [
    .ret (.tup [.str "retire", .idx (.frz (.lst [.bin .sub (.idx (.var 1) (.int 1)) (.int 1), .idx (.var 1) (.int 1), .call "_law_draw" [.var 0, .bin .add (.idx (.var 1) (.int 1)) (.int 1)], .ife (.idx (.var 1) (.int 0)) (.idx (.idx (.idx (.var 1) (.int 0)) (.int 0)) (.int 0)) (.int 0)])) (.call "_law_draw" [.var 0, .int 4])])] [],
  .ite (.and (.cmp .eq (.var 5) (.int 8)) (.idx (.var 1) (.int 2))) [
    .ret (.tup [.str "theirs", .idx (.idx (.idx (.var 1) (.int 2)) (.call "_law_draw" [.var 0, .bi .len [.idx (.var 1) (.int 2)]])) (.int 0)])] [],
  .ret (.tup [.str "issue", .var 2])] }
def fn_law_id_told : MP.FnI := { np := 2, names := ["ids", "deed"], body := [
  .ite (.cmp .eq (.idx (.var 1) (.int 0)) (.str "take")) [
    .ret (.call "take_identifier" [.var 0, .idx (.var 1) (.int 1), .idx (.var 1) (.int 2)])] [],
  .ite (.cmp .eq (.idx (.var 1) (.int 0)) (.str "retire")) [
    .ret (.call "take_retire" [.var 0, .idx (.var 1) (.int 1)])] [],
  .ret (.ife (.cmp .eq (.idx (.var 1) (.int 0)) (.str "theirs")) (.call "retire_theirs" [.var 0, .idx (.var 1) (.int 1)]) (.call "issue_value" [.var 0, .idx (.var 1) (.int 1)]))] }
def fn_law_id_due : MP.FnI := { np := 2, names := ["ids", "deed"], body := [
  .ite (.cmp .eq (.idx (.var 1) (.int 0)) (.str "take")) [
    .ret (.call "_law_identifier_taken" [.var 0, .idx (.var 1) (.int 1), .idx (.var 1) (.int 2)])] [],
  .ite (.cmp .eq (.idx (.var 1) (.int 0)) (.str "retire")) [
    .ret (.call "_law_retire_taken" [.var 0, .idx (.var 1) (.int 1)])] [],
  .ret (.ife (.cmp .eq (.idx (.var 1) (.int 0)) (.str "theirs")) (.call "_law_theirs_retired" [.var 0, .idx (.var 1) (.int 1)]) (.call "_law_issued" [.var 0, .idx (.var 1) (.int 1)]))] }
def fn_law_id_life : MP.FnI := { np := 1, names := ["tape", "role", "ids", "kept", "k", "deed", "due", "other", "old", "met", "pair"], body := [
  .asg (.nm 1) (.idx (.frz (.lst [.str "client", .str "server"])) (.call "_law_draw" [.var 0, .int 2])),
  .asg (.nm 2) (.call "new_identifiers" [.var 1, .int 5, .int 4]),
  .ite (.or (.not (.call "_law_same" [.var 2, .call "_law_new_identifiers" [.var 1, .int 5, .int 4]])) (.not (.call "_law_same" [.call "new_identifiers" [.str "server", .int 7, .int 5], .call "_law_new_identifiers" [.str "server", .int 7, .int 5]]))) [
    .ret (.bl false)] [],
  .asg (.nm 3) (.lst []),
  .for_ (.nm 4) .rng1 [.bin .add (.int 8) (.call "_law_draw" [.var 0, .int 23])] [
    .asg (.nm 5) (.call "_law_id_deed" [.var 0, .var 2, .bin .add (.int 10) (.bin .mul (.int 3) (.var 4))]),
    .asg (.nm 6) (.call "_law_id_due" [.var 2, .var 5]),
    .ite (.not (.call "_law_same" [.call "_law_id_told" [.var 2, .var 5], .var 6])) [
      .ret (.bl false)] [],
    .ite (.cmp .eq (.call "_law_draw" [.var 0, .int 3]) (.int 0)) [
      .asg (.nm 7) (.call "_law_id_deed" [.var 0, .var 2, .bin .add (.int 11) (.bin .mul (.int 3) (.var 4))]),
      .ite (.or (.not (.call "_law_same" [.call "_law_id_told" [.var 2, .var 7], .call "_law_id_due" [.var 2, .var 7]])) (.not (.call "_law_same" [.call "_law_id_told" [.var 2, .var 5], .var 6]))) [
        .ret (.bl false)] []] [],
    .ex (.meth .append (.var 3) [.tup [.var 2, .var 5]]),
    .asg (.nm 2) (.ife (.cmp .isN (.var 6) (.non)) (.var 2) (.var 6))],
  .asg (.nm 8) (.idx (.var 3) (.call "_law_draw" [.var 0, .bi .len [.var 3]])),
  .asg (.nm 9) (.bin .add (.idx (.var 2) (.int 2)) (.idx (.var 2) (.int 3))),
  .ite (.or (.cmp .ne (.lenset (.frz (.comp (.idx (.var 10) (.int 0)) (.nm 10) .ex [.var 9] [] [("pair", 10)]))) (.bi .len [.var 9])) (.cmp .ne (.lenset (.frz (.comp (.idx (.var 10) (.int 1)) (.nm 10) .ex [.var 9] [] [("pair", 10)]))) (.bi .len [.var 9]))) [
    .ret (.bl false)] [],
  .ret (.call "_law_same" [.call "_law_id_told" [.idx (.var 8) (.int 0), .idx (.var 8) (.int 1)], .call "_law_id_due" [.idx (.var 8) (.int 0), .idx (.var 8) (.int 1)]])] }
def fn_law_some_path : MP.FnI := { np := 4, names := ["tape", "profile", "rule", "k", "path", "j"], icy := true, body := [
  .asg (.nm 4) (.call "_law_x_path" [.idx (.frz (.lst [.str "client", .str "server"])) (.call "_law_draw" [.var 0, .int 2]), .var 1, .var 2, .tup [.bin .add (.int 1) (.var 3), .int 10], .cmp .eq (.var 3) (.int 0), .var 3, .var 3, .cmp .eq (.call "_law_draw" [.var 0, .int 2]) (.int 0)]),
  .setIx (.var 4) (.int 2) (.cmp .eq (.call "_law_draw" [.var 0, .int 2]) (.int 0)),
  .setSl (.var 4) 4 10 (.lst [.call "_law_draw" [.var 0, .int 60], .call "_law_draw" [.var 0, .int 200], .non, .call "_law_draw" [.var 0, .int 4], .cmp .eq (.call "_law_draw" [.var 0, .int 2]) (.int 0), .tup []]),
  .setIx (.var 4) (.int 6) (.idx (.frz (.lst [.non, .tup [.call "_law_draw" [.var 0, .int 4], .bin .add (.int 50) (.call "_law_draw" [.var 0, .int 9])]])) (.call "_law_draw" [.var 0, .int 2])),
  .setIx (.var 4) (.int 9) (.bi .tuple [.frz (.comp (.call "_law_draw" [.var 0, .int 9]) (.nm 5) .rng1 [.call "_law_draw" [.var 0, .int 5]] [] [("j", 5)])]),
  .setIx (.var 4) (.int 12) (.cmp .eq (.call "_law_draw" [.var 0, .int 4]) (.int 0)),
  .setIx (.var 4) (.int 14) (.tup [.bl true, .int 20, .idx (.frz (.lst [.int 3, .int 3, .int 7, .int 20])) (.call "_law_draw" [.var 0, .int 4]), .int 4, .int 3]),
  .setSl (.var 4) 16 18 (.lst [.idx (.frz (.lst [.int 0, .bin .sub (.bin .add (.bin .sub (.idx (.idx (.var 4) (.int 15)) (.int 2)) (.idx (.var 1) (.int 2))) (.call "_law_draw" [.var 0, .int 3])) (.int 1)])) (.call "_law_draw" [.var 0, .int 2]), .call "_law_draw" [.var 0, .int 5]]),
  .ret (.var 4)] }
def fn_law_answers : MP.FnI := { np := 6, names := ["door", "paths", "k", "value", "full", "ids", "path", "told", "due", "hit", "left", "pair", "one"], body := [
  .asg (.nm 6) (.idx (.var 1) (.var 2)),
  .asg (.nm 7) (.call "_law_frozen" [.var 6]),
  .ite (.cmp .eq (.var 0) (.int 0)) [
    .asg (.nm 8) (.ife (.or (.idx (.var 6) (.int 2)) (.not (.idx (.var 6) (.int 3)))) (.non) (.bi .max [.bin .sub (.bin .mul (.int 3) (.idx (.var 6) (.int 4))) (.idx (.var 6) (.int 5)), .int 0])),
    .ret (.call "_law_same" [.call "allowance" [.var 7], .var 8])] [],
  .ite (.cmp .eq (.var 0) (.int 1)) [
    .asg (.nm 9) (.and (.cmp .notN (.idx (.var 6) (.int 6)) (.non)) (.cmp .eq (.idx (.idx (.var 6) (.int 6)) (.int 0)) (.var 3))),
    .asg (.nm 8) (.ife (.var 9) (.bin .add (.bin .add (.bin .add (.bin .add (.slice (.var 7) .non (.int 2)) (.tup [.bl true])) (.slice (.var 7) (.int 3) (.int 6))) (.tup [.non, .idx (.var 7) (.int 7), .bl false])) (.slice (.var 7) (.int 9) .non)) (.var 7)),
    .ret (.call "_law_same" [.call "take_response" [.var 7, .var 3], .var 8])] [],
  .ite (.cmp .eq (.var 0) (.int 2)) [
    .ret (.call "_law_same" [.call "take_challenge" [.var 7, .var 3], .bin .add (.bin .add (.slice (.var 7) .non (.int 9)) (.tup [.slice (.bin .add (.idx (.var 7) (.int 9)) (.tup [.var 3])) (.neg (.int 4)) .non])) (.slice (.var 7) (.int 10) .non)])] [],
  .ite (.cmp .eq (.var 0) (.int 3)) [
    .ret (.call "_law_same" [.call "can_be_used" [.var 7], .and (.idx (.var 6) (.int 2)) (.and (.not (.idx (.var 6) (.int 12))) (.cmp .lt (.idx (.var 6) (.int 17)) (.int 3)))])] [],
  .ite (.cmp .eq (.var 0) (.int 4)) [
    .ret (.call "_law_same" [.call "is_free" [.var 7, .var 4], .cmp .le (.bin .add (.idx (.var 6) (.int 16)) (.var 4)) (.idx (.idx (.var 6) (.int 15)) (.int 2))])] [],
  .ite (.cmp .eq (.var 0) (.int 5)) [
    .ret (.call "_law_same" [.call "main_of" [.call "_law_frozen" [.var 1], .var 4], .call "_law_x_main" [.frz (.lst [.int 0, .tup [.int 0, .int 0, .var 4], .int 0, .int 0, .int 0, .int 0, .int 0, .int 0, .var 1])]])] [],
  .asg (.nm 10) (.frz (.comp (.idx (.var 11) (.int 0)) (.nm 11) .ex [.idx (.var 5) (.int 2)] [.cmp .notin (.idx (.var 11) (.int 0)) (.frz (.comp (.idx (.var 12) (.int 10)) (.nm 12) .ex [.var 1] [] [("one", 12)]))] [("pair", 11)])),
  .ret (.call "_law_same" [.call "unused_sequence" [.call "_law_frozen" [.var 1], .var 5], .ife (.var 10) (.idx (.var 10) (.int 0)) (.non)])] }
def fn_law_doors : MP.FnI := { np := 1, names := ["tape", "full", "profile", "rule", "roles", "role", "first", "replaces", "ours", "other", "paths", "k", "ids", "door", "value", "changed_v", "each"], body := [
  .asg (.nm 1) (.idx (.frz (.lst [.int 32, .int 40, .int 80, .bin .add (.int 32) (.call "_law_draw" [.var 0, .int 49])])) (.call "_law_draw" [.var 0, .int 4])),
  .asg (.nm 2) (.tup [.int 120, .int 60, .var 1, .int 4, .bin .add (.int 1) (.call "_law_draw" [.var 0, .int 1000]), .int 0]),
  .asg (.nm 3) (.call "_law_rule" [.var 0, .bl false]),
  .asg (.nm 4) (.frz (.lst [.str "client", .str "server", .str "client", .str "server"])),
  .for_ (.nm 5) .ex [.frz (.slice (.frz (.slice (.var 4) (.call "_law_draw" [.var 0, .int 2]) .non)) .non (.int 3))] [
    .asg (.nm 6) (.frz (.call "_law_x_path" [.var 5, .var 2, .var 3, .tup [.int 1, .int 10], .bl true, .int 0, .int 0, .bl false])),
    .ite (.not (.call "_law_same" [.call "first_path" [.var 5, .var 2, .var 3, .int 1, .int 10], .call "_law_frozen" [.var 6]])) [
      .ret (.bl false)] [],
    .asg (.nm 7) (.cmp .eq (.call "_law_draw" [.var 0, .int 2]) (.int 0)),
    .asg (.nm 8) (.ife (.cmp .eq (.var 5) (.str "client")) (.non) (.bin .add (.int 1) (.call "_law_draw" [.var 0, .int 5]))),
    .asg (.nm 9) (.frz (.call "_law_x_path" [.var 5, .var 2, .var 3, .tup [.int 10, .int 2], .bl false, .bin .add (.int 1) (.call "_law_draw" [.var 0, .int 5]), .var 8, .var 7])),
    .ite (.not (.call "_law_same" [.call "further_path" [.var 5, .var 2, .var 3, .int 10, .int 2, .idx (.var 9) (.int 10), .var 8, .var 7], .call "_law_frozen" [.var 9]])) [
      .ret (.bl false)] []],
  .asg (.nm 10) (.frz (.comp (.call "_law_some_path" [.var 0, .var 2, .var 3, .var 11]) (.nm 11) .rng1 [.bin .add (.int 1) (.call "_law_draw" [.var 0, .int 5])] [] [("k", 11)])),
  .asg (.nm 12) (.tup [.tup [.tup [.int 0, .int 5]], .int 1, .bi .tuple [.frz (.comp (.tup [.var 11, .bin .add (.int 40) (.var 11)]) (.nm 11) .rng2 [.bin .add (.int 1) (.call "_law_draw" [.var 0, .int 4]), .int 5] [] [("k", 11)])], .tup [], .non]),
  .for_ (.nm 13) .ex [.call "_law_turns" [.var 0, .int 7]] [
    .asg (.nm 11) (.call "_law_draw" [.var 0, .bi .len [.var 10]]),
    .asg (.nm 14) (.idx (.frz (.lst [.call "_law_draw" [.var 0, .int 4], .ife (.cmp .notN (.idx (.idx (.var 10) (.var 11)) (.int 6)) (.non)) (.idx (.idx (.idx (.var 10) (.var 11)) (.int 6)) (.int 0)) (.int 0)])) (.call "_law_draw" [.var 0, .int 2])),
    .asg (.nm 15) (.call "_law_copied" [.var 10]),
    .setIx (.var 15) (.call "_law_draw" [.var 0, .bi .len [.var 10]]) (.call "_law_some_path" [.var 0, .var 2, .var 3, .var 11]),
    .for_ (.nm 16) .ex [.frz (.lst [.var 10, .var 15, .var 10])] [
      .ite (.or (.not (.call "_law_answers" [.var 13, .var 16, .var 11, .var 14, .idx (.var 2) (.int 2), .var 12])) (.not (.call "_law_answers" [.var 13, .var 16, .var 11, .bin .add (.var 14) (.int 1), .bi .min [.bin .add (.idx (.var 2) (.int 2)) (.int 1), .int 80], .var 12]))) [
        .ret (.bl false)] []]],
  .ret (.bl true)] }
def fn_law : MP.FnI := { np := 1, names := ["script", "tape", "vault", "ring", "door"], body := [
  .asg (.nm 1) (.call "_law_tape" [.var 0]),
  .asg (.nm 2) (.call "_law_vault" [.var 1]),
  .asg (.nm 3) (.call "_law_ring" [.var 1, .var 2]),
  .for_ (.nm 4) .ex [.call "_law_turns" [.var 1, .int 5]] [
    .ite (.and (.cmp .eq (.var 4) (.int 0)) (.not (.call "_law_reads" [.var 1, .var 2, .var 3]))) [
      .ret (.bl false)] [],
    .ite (.and (.cmp .eq (.var 4) (.int 1)) (.not (.call "_law_makes" [.var 1, .var 2, .var 3]))) [
      .ret (.bl false)] [],
    .ite (.and (.cmp .eq (.var 4) (.int 2)) (.not (.call "_law_routes" [.var 1, .var 2, .var 3]))) [
      .ret (.bl false)] [],
    .ite (.and (.cmp .eq (.var 4) (.int 3)) (.not (.call "_law_id_life" [.var 1]))) [
      .ret (.bl false)] [],
    .ite (.and (.cmp .eq (.var 4) (.int 4)) (.not (.call "_law_doors" [.var 1]))) [
      .ret (.bl false)] []],
  .ret (.bl true)] }
def gf0 : List (Str × MP.FnI) := [("changed", fn_changed), ("size_of", fn_size_of), ("with_entry", fn_with_entry), ("row_of", fn_row_of), ("draw", fn_draw), ("seal", fn_seal), ("unseal", fn_unseal), ("make_identifier", fn_make_identifier), ("names_server", fn_names_server), ("read_identifier", fn_read_identifier), ("new_identifiers", fn_new_identifiers), ("value_of", fn_value_of), ("issue_value", fn_issue_value), ("take_identifier", fn_take_identifier), ("take_retire", fn_take_retire), ("retire_theirs", fn_retire_theirs), ("route_datagram", fn_route_datagram), ("new_controller", fn_new_controller), ("new_estimate", fn_new_estimate), ("first_path", fn_first_path), ("further_path", fn_further_path), ("allowance", fn_allowance), ("take_response", fn_take_response), ("take_challenge", fn_take_challenge), ("can_be_used", fn_can_be_used), ("is_free", fn_is_free), ("main_of", fn_main_of), ("unused_sequence", fn_unused_sequence), ("_law_tape", fn_law_tape), ("_law_draw", fn_law_draw)]
def gf1 : List (Str × MP.FnI) := [("_law_turns", fn_law_turns), ("_law_whole", fn_law_whole), ("_law_same", fn_law_same), ("_law_rule", fn_law_rule), ("_law_new_identifiers", fn_law_new_identifiers), ("_law_issued", fn_law_issued), ("_law_identifier_taken", fn_law_identifier_taken), ("_law_retire_taken", fn_law_retire_taken), ("_law_theirs_retired", fn_law_theirs_retired), ("_law_frozen", fn_law_frozen), ("_law_copied", fn_law_copied), ("_law_x_path", fn_law_x_path), ("_law_x_main", fn_law_x_main), ("_law_vault", fn_law_vault), ("_law_ring", fn_law_ring), ("_law_named", fn_law_named), ("_law_made", fn_law_made), ("_law_target", fn_law_target), ("_law_reads", fn_law_reads), ("_law_makes", fn_law_makes), ("_law_packet", fn_law_packet), ("_law_routes", fn_law_routes), ("_law_id_deed", fn_law_id_deed), ("_law_id_told", fn_law_id_told), ("_law_id_due", fn_law_id_due), ("_law_id_life", fn_law_id_life), ("_law_some_path", fn_law_some_path), ("_law_answers", fn_law_answers), ("_law_doors", fn_law_doors), ("law", fn_law)]
def g : MP.Mod := { fns := gf0 ++ gf1, cns := [("ROUTE_HEADER", .tup [.str "route"]), ("ROUTE_BOX_SIZE", .int 3), ("GREATEST_SERVER", .int 63), ("MOST_THEIRS", .int 4), ("VALIDATED", .int 2), ("LIMITED", .int 3), ("RECEIVED", .int 4), ("SENT", .int 5), ("CHALLENGE", .int 6), ("DUE", .int 8), ("RESPONSES", .int 9), ("THEIRS", .int 10), ("OURS", .int 11), ("GIVEN_UP", .int 12), ("REPLACES", .int 13), ("ESTIMATE", .int 14), ("CONTROLLER", .int 15), ("UNDER_WAY", .int 16), ("ALARMS", .int 17), ("AMPLIFICATION", .int 3), ("MOST_RESPONSES", .int 4), ("MOST_ALARMS", .int 3)] }
def topS (i : Nat) : Stmt := PySem.Challenge.pw_sealedlink_k56_identifiers_balancers_pat.main.body.getD i (.Pass ⟨0, 0, 0, 0⟩)
abbrev s_changed : Stmt := topS 1
abbrev s_size_of : Stmt := topS 3
abbrev s_with_entry : Stmt := topS 5
abbrev s_row_of : Stmt := topS 6
abbrev s_draw : Stmt := topS 7
abbrev s_seal : Stmt := topS 8
abbrev s_unseal : Stmt := topS 9
abbrev s_make_identifier : Stmt := topS 15
abbrev s_names_server : Stmt := topS 16
abbrev s_read_identifier : Stmt := topS 17
abbrev s_new_identifiers : Stmt := topS 18
abbrev s_value_of : Stmt := topS 19
abbrev s_issue_value : Stmt := topS 20
abbrev s_take_identifier : Stmt := topS 21
abbrev s_take_retire : Stmt := topS 22
abbrev s_retire_theirs : Stmt := topS 23
abbrev s_route_datagram : Stmt := topS 25
abbrev s_new_controller : Stmt := topS 27
abbrev s_new_estimate : Stmt := topS 29
abbrev s_first_path : Stmt := topS 49
abbrev s_further_path : Stmt := topS 50
abbrev s_allowance : Stmt := topS 51
abbrev s_take_response : Stmt := topS 52
abbrev s_take_challenge : Stmt := topS 53
abbrev s_can_be_used : Stmt := topS 54
abbrev s_is_free : Stmt := topS 55
abbrev s_main_of : Stmt := topS 56
abbrev s_unused_sequence : Stmt := topS 57
abbrev s_law_tape : Stmt := topS 59
abbrev s_law_draw : Stmt := topS 60
abbrev s_law_turns : Stmt := topS 61
abbrev s_law_whole : Stmt := topS 62
abbrev s_law_same : Stmt := topS 63
abbrev s_law_rule : Stmt := topS 64
abbrev s_law_new_identifiers : Stmt := topS 65
abbrev s_law_issued : Stmt := topS 66
abbrev s_law_identifier_taken : Stmt := topS 67
abbrev s_law_retire_taken : Stmt := topS 68
abbrev s_law_theirs_retired : Stmt := topS 69
abbrev s_law_frozen : Stmt := topS 70
abbrev s_law_copied : Stmt := topS 71
abbrev s_law_x_path : Stmt := topS 72
abbrev s_law_x_main : Stmt := topS 73
abbrev s_law_vault : Stmt := topS 74
abbrev s_law_ring : Stmt := topS 75
abbrev s_law_named : Stmt := topS 76
abbrev s_law_made : Stmt := topS 77
abbrev s_law_target : Stmt := topS 78
abbrev s_law_reads : Stmt := topS 79
abbrev s_law_makes : Stmt := topS 80
abbrev s_law_packet : Stmt := topS 81
abbrev s_law_routes : Stmt := topS 82
abbrev s_law_id_deed : Stmt := topS 83
abbrev s_law_id_told : Stmt := topS 84
abbrev s_law_id_due : Stmt := topS 85
abbrev s_law_id_life : Stmt := topS 86
abbrev s_law_some_path : Stmt := topS 87
abbrev s_law_answers : Stmt := topS 88
abbrev s_law_doors : Stmt := topS 89
abbrev s_law : Stmt := topS 90
theorem sc_changed : L2.FnScope fn_changed.names ["row", "place", "value"] (L2.defScope s_changed) := ⟨rfl, rfl, rfl, by decide +kernel, rfl, by decide +kernel, by decide +kernel⟩
theorem ck_changed : MP.chkSs g ⟨fn_changed.names, L2.defScope s_changed, fun _ => true, fn_changed.gen⟩ (L2.defBody s_changed) fn_changed.body = true := by decide +kernel
theorem sc_size_of : L2.FnScope fn_size_of.names ["datum"] (L2.defScope s_size_of) := ⟨rfl, rfl, rfl, by decide +kernel, rfl, by decide +kernel, by decide +kernel⟩
theorem ck_size_of : MP.chkSs g ⟨fn_size_of.names, L2.defScope s_size_of, fun _ => true, fn_size_of.gen⟩ (L2.defBody s_size_of) fn_size_of.body = true := by decide +kernel
theorem sc_with_entry : L2.FnScope fn_with_entry.names ["vault", "row"] (L2.defScope s_with_entry) := ⟨rfl, rfl, rfl, by decide +kernel, rfl, by decide +kernel, by decide +kernel⟩
theorem ck_with_entry : MP.chkSs g ⟨fn_with_entry.names, L2.defScope s_with_entry, fun _ => true, fn_with_entry.gen⟩ (L2.defBody s_with_entry) fn_with_entry.body = true := by decide +kernel
theorem sc_row_of : L2.FnScope fn_row_of.names ["vault", "entry", "word"] (L2.defScope s_row_of) := ⟨rfl, rfl, rfl, by decide +kernel, rfl, by decide +kernel, by decide +kernel⟩
theorem ck_row_of : MP.chkSs g ⟨fn_row_of.names, L2.defScope s_row_of, fun _ => true, fn_row_of.gen⟩ (L2.defBody s_row_of) fn_row_of.body = true := by decide +kernel
theorem sc_draw : L2.FnScope fn_draw.names ["vault"] (L2.defScope s_draw) := ⟨rfl, rfl, rfl, by decide +kernel, rfl, by decide +kernel, by decide +kernel⟩
theorem ck_draw : MP.chkSs g ⟨fn_draw.names, L2.defScope s_draw, fun _ => true, fn_draw.gen⟩ (L2.defBody s_draw) fn_draw.body = true := by decide +kernel
theorem sc_seal : L2.FnScope fn_seal.names ["vault", "secret", "number", "header", "content"] (L2.defScope s_seal) := ⟨rfl, rfl, rfl, by decide +kernel, rfl, by decide +kernel, by decide +kernel⟩
theorem ck_seal : MP.chkSs g ⟨fn_seal.names, L2.defScope s_seal, fun _ => true, fn_seal.gen⟩ (L2.defBody s_seal) fn_seal.body = true := by decide +kernel
theorem sc_unseal : L2.FnScope fn_unseal.names ["vault", "secret", "header", "box"] (L2.defScope s_unseal) := ⟨rfl, rfl, rfl, by decide +kernel, rfl, by decide +kernel, by decide +kernel⟩
theorem ck_unseal : MP.chkSs g ⟨fn_unseal.names, L2.defScope s_unseal, fun _ => true, fn_unseal.gen⟩ (L2.defBody s_unseal) fn_unseal.body = true := by decide +kernel
theorem sc_make_identifier : L2.FnScope fn_make_identifier.names ["vault", "ring", "server"] (L2.defScope s_make_identifier) := ⟨rfl, rfl, rfl, by decide +kernel, rfl, by decide +kernel, by decide +kernel⟩
theorem ck_make_identifier : MP.chkSs g ⟨fn_make_identifier.names, L2.defScope s_make_identifier, fun _ => true, fn_make_identifier.gen⟩ (L2.defBody s_make_identifier) fn_make_identifier.body = true := by decide +kernel
theorem sc_names_server : L2.FnScope fn_names_server.names ["content"] (L2.defScope s_names_server) := ⟨rfl, rfl, rfl, by decide +kernel, rfl, by decide +kernel, by decide +kernel⟩
theorem ck_names_server : MP.chkSs g ⟨fn_names_server.names, L2.defScope s_names_server, fun _ => true, fn_names_server.gen⟩ (L2.defBody s_names_server) fn_names_server.body = true := by decide +kernel
theorem sc_read_identifier : L2.FnScope fn_read_identifier.names ["vault", "ring", "value"] (L2.defScope s_read_identifier) := ⟨rfl, rfl, rfl, by decide +kernel, rfl, by decide +kernel, by decide +kernel⟩
theorem ck_read_identifier : MP.chkSs g ⟨fn_read_identifier.names, L2.defScope s_read_identifier, fun _ => true, fn_read_identifier.gen⟩ (L2.defBody s_read_identifier) fn_read_identifier.body = true := by decide +kernel
theorem sc_new_identifiers : L2.FnScope fn_new_identifiers.names ["role", "own", "target"] (L2.defScope s_new_identifiers) := ⟨rfl, rfl, rfl, by decide +kernel, rfl, by decide +kernel, by decide +kernel⟩
theorem ck_new_identifiers : MP.chkSs g ⟨fn_new_identifiers.names, L2.defScope s_new_identifiers, fun _ => true, fn_new_identifiers.gen⟩ (L2.defBody s_new_identifiers) fn_new_identifiers.body = true := by decide +kernel
theorem sc_value_of : L2.FnScope fn_value_of.names ["pairs", "sequence"] (L2.defScope s_value_of) := ⟨rfl, rfl, rfl, by decide +kernel, rfl, by decide +kernel, by decide +kernel⟩
theorem ck_value_of : MP.chkSs g ⟨fn_value_of.names, L2.defScope s_value_of, fun _ => true, fn_value_of.gen⟩ (L2.defBody s_value_of) fn_value_of.body = true := by decide +kernel
theorem sc_issue_value : L2.FnScope fn_issue_value.names ["identifiers", "value"] (L2.defScope s_issue_value) := ⟨rfl, rfl, rfl, by decide +kernel, rfl, by decide +kernel, by decide +kernel⟩
theorem ck_issue_value : MP.chkSs g ⟨fn_issue_value.names, L2.defScope s_issue_value, fun _ => true, fn_issue_value.gen⟩ (L2.defBody s_issue_value) fn_issue_value.body = true := by decide +kernel
theorem sc_take_identifier : L2.FnScope fn_take_identifier.names ["identifiers", "sequence", "value"] (L2.defScope s_take_identifier) := ⟨rfl, rfl, rfl, by decide +kernel, rfl, by decide +kernel, by decide +kernel⟩
theorem ck_take_identifier : MP.chkSs g ⟨fn_take_identifier.names, L2.defScope s_take_identifier, fun _ => true, fn_take_identifier.gen⟩ (L2.defBody s_take_identifier) fn_take_identifier.body = true := by decide +kernel
theorem sc_take_retire : L2.FnScope fn_take_retire.names ["identifiers", "sequence"] (L2.defScope s_take_retire) := ⟨rfl, rfl, rfl, by decide +kernel, rfl, by decide +kernel, by decide +kernel⟩
theorem ck_take_retire : MP.chkSs g ⟨fn_take_retire.names, L2.defScope s_take_retire, fun _ => true, fn_take_retire.gen⟩ (L2.defBody s_take_retire) fn_take_retire.body = true := by decide +kernel
theorem sc_retire_theirs : L2.FnScope fn_retire_theirs.names ["identifiers", "sequence"] (L2.defScope s_retire_theirs) := ⟨rfl, rfl, rfl, by decide +kernel, rfl, by decide +kernel, by decide +kernel⟩
theorem ck_retire_theirs : MP.chkSs g ⟨fn_retire_theirs.names, L2.defScope s_retire_theirs, fun _ => true, fn_retire_theirs.gen⟩ (L2.defBody s_retire_theirs) fn_retire_theirs.body = true := by decide +kernel
theorem sc_route_datagram : L2.FnScope fn_route_datagram.names ["vault", "ring", "servers", "datagram"] (L2.defScope s_route_datagram) := ⟨rfl, rfl, rfl, by decide +kernel, rfl, by decide +kernel, by decide +kernel⟩
theorem ck_route_datagram : MP.chkSs g ⟨fn_route_datagram.names, L2.defScope s_route_datagram, fun _ => true, fn_route_datagram.gen⟩ (L2.defBody s_route_datagram) fn_route_datagram.body = true := by decide +kernel
theorem sc_new_controller : L2.FnScope fn_new_controller.names ["rule", "least", "window"] (L2.defScope s_new_controller) := ⟨rfl, rfl, rfl, by decide +kernel, rfl, by decide +kernel, by decide +kernel⟩
theorem ck_new_controller : MP.chkSs g ⟨fn_new_controller.names, L2.defScope s_new_controller, fun _ => true, fn_new_controller.gen⟩ (L2.defBody s_new_controller) fn_new_controller.body = true := by decide +kernel
theorem sc_new_estimate : L2.FnScope fn_new_estimate.names ["trip"] (L2.defScope s_new_estimate) := ⟨rfl, rfl, rfl, by decide +kernel, rfl, by decide +kernel, by decide +kernel⟩
theorem ck_new_estimate : MP.chkSs g ⟨fn_new_estimate.names, L2.defScope s_new_estimate, fun _ => true, fn_new_estimate.gen⟩ (L2.defBody s_new_estimate) fn_new_estimate.body = true := by decide +kernel
theorem sc_first_path : L2.FnScope fn_first_path.names ["role", "profile", "rule", "local", "remote"] (L2.defScope s_first_path) := ⟨rfl, rfl, rfl, by decide +kernel, rfl, by decide +kernel, by decide +kernel⟩
theorem ck_first_path : MP.chkSs g ⟨fn_first_path.names, L2.defScope s_first_path, fun _ => true, fn_first_path.gen⟩ (L2.defBody s_first_path) fn_first_path.body = true := by decide +kernel
theorem sc_further_path : L2.FnScope fn_further_path.names ["role", "profile", "rule", "local", "remote", "theirs", "ours", "replaces"] (L2.defScope s_further_path) := ⟨rfl, rfl, rfl, by decide +kernel, rfl, by decide +kernel, by decide +kernel⟩
theorem ck_further_path : MP.chkSs g ⟨fn_further_path.names, L2.defScope s_further_path, fun _ => true, fn_further_path.gen⟩ (L2.defBody s_further_path) fn_further_path.body = true := by decide +kernel
theorem sc_allowance : L2.FnScope fn_allowance.names ["path"] (L2.defScope s_allowance) := ⟨rfl, rfl, rfl, by decide +kernel, rfl, by decide +kernel, by decide +kernel⟩
theorem ck_allowance : MP.chkSs g ⟨fn_allowance.names, L2.defScope s_allowance, fun _ => true, fn_allowance.gen⟩ (L2.defBody s_allowance) fn_allowance.body = true := by decide +kernel
theorem sc_take_response : L2.FnScope fn_take_response.names ["path", "value"] (L2.defScope s_take_response) := ⟨rfl, rfl, rfl, by decide +kernel, rfl, by decide +kernel, by decide +kernel⟩
theorem ck_take_response : MP.chkSs g ⟨fn_take_response.names, L2.defScope s_take_response, fun _ => true, fn_take_response.gen⟩ (L2.defBody s_take_response) fn_take_response.body = true := by decide +kernel
theorem sc_take_challenge : L2.FnScope fn_take_challenge.names ["path", "value"] (L2.defScope s_take_challenge) := ⟨rfl, rfl, rfl, by decide +kernel, rfl, by decide +kernel, by decide +kernel⟩
theorem ck_take_challenge : MP.chkSs g ⟨fn_take_challenge.names, L2.defScope s_take_challenge, fun _ => true, fn_take_challenge.gen⟩ (L2.defBody s_take_challenge) fn_take_challenge.body = true := by decide +kernel
theorem sc_can_be_used : L2.FnScope fn_can_be_used.names ["path"] (L2.defScope s_can_be_used) := ⟨rfl, rfl, rfl, by decide +kernel, rfl, by decide +kernel, by decide +kernel⟩
theorem ck_can_be_used : MP.chkSs g ⟨fn_can_be_used.names, L2.defScope s_can_be_used, fun _ => true, fn_can_be_used.gen⟩ (L2.defBody s_can_be_used) fn_can_be_used.body = true := by decide +kernel
theorem sc_is_free : L2.FnScope fn_is_free.names ["path", "full"] (L2.defScope s_is_free) := ⟨rfl, rfl, rfl, by decide +kernel, rfl, by decide +kernel, by decide +kernel⟩
theorem ck_is_free : MP.chkSs g ⟨fn_is_free.names, L2.defScope s_is_free, fun _ => true, fn_is_free.gen⟩ (L2.defBody s_is_free) fn_is_free.body = true := by decide +kernel
theorem sc_main_of : L2.FnScope fn_main_of.names ["paths", "full"] (L2.defScope s_main_of) := ⟨rfl, rfl, rfl, by decide +kernel, rfl, by decide +kernel, by decide +kernel⟩
theorem ck_main_of : MP.chkSs g ⟨fn_main_of.names, L2.defScope s_main_of, fun _ => true, fn_main_of.gen⟩ (L2.defBody s_main_of) fn_main_of.body = true := by decide +kernel
theorem sc_unused_sequence : L2.FnScope fn_unused_sequence.names ["paths", "identifiers"] (L2.defScope s_unused_sequence) := ⟨rfl, rfl, rfl, by decide +kernel, rfl, by decide +kernel, by decide +kernel⟩
theorem ck_unused_sequence : MP.chkSs g ⟨fn_unused_sequence.names, L2.defScope s_unused_sequence, fun _ => true, fn_unused_sequence.gen⟩ (L2.defBody s_unused_sequence) fn_unused_sequence.body = true := by decide +kernel
theorem sc_law_tape : L2.FnScope fn_law_tape.names ["script"] (L2.defScope s_law_tape) := ⟨rfl, rfl, rfl, by decide +kernel, rfl, by decide +kernel, by decide +kernel⟩
theorem ck_law_tape : MP.chkSs g ⟨fn_law_tape.names, L2.defScope s_law_tape, fun _ => true, fn_law_tape.gen⟩ (L2.defBody s_law_tape) fn_law_tape.body = true := by decide +kernel
theorem sc_law_draw : L2.FnScope fn_law_draw.names ["tape", "many"] (L2.defScope s_law_draw) := ⟨rfl, rfl, rfl, by decide +kernel, rfl, by decide +kernel, by decide +kernel⟩
theorem ck_law_draw : MP.chkSs g ⟨fn_law_draw.names, L2.defScope s_law_draw, fun _ => true, fn_law_draw.gen⟩ (L2.defBody s_law_draw) fn_law_draw.body = true := by decide +kernel
theorem sc_law_turns : L2.FnScope fn_law_turns.names ["tape", "many"] (L2.defScope s_law_turns) := ⟨rfl, rfl, rfl, by decide +kernel, rfl, by decide +kernel, by decide +kernel⟩
theorem ck_law_turns : MP.chkSs g ⟨fn_law_turns.names, L2.defScope s_law_turns, fun _ => true, fn_law_turns.gen⟩ (L2.defBody s_law_turns) fn_law_turns.body = true := by decide +kernel
theorem sc_law_whole : L2.FnScope fn_law_whole.names ["told"] (L2.defScope s_law_whole) := ⟨rfl, rfl, rfl, by decide +kernel, rfl, by decide +kernel, by decide +kernel⟩
theorem ck_law_whole : MP.chkSs g ⟨fn_law_whole.names, L2.defScope s_law_whole, fun _ => true, fn_law_whole.gen⟩ (L2.defBody s_law_whole) fn_law_whole.body = true := by decide +kernel
theorem sc_law_same : L2.FnScope fn_law_same.names ["told", "due"] (L2.defScope s_law_same) := ⟨rfl, rfl, rfl, by decide +kernel, rfl, by decide +kernel, by decide +kernel⟩
theorem ck_law_same : MP.chkSs g ⟨fn_law_same.names, L2.defScope s_law_same, fun _ => true, fn_law_same.gen⟩ (L2.defBody s_law_same) fn_law_same.body = true := by decide +kernel
theorem sc_law_rule : L2.FnScope fn_law_rule.names ["tape", "large"] (L2.defScope s_law_rule) := ⟨rfl, rfl, rfl, by decide +kernel, rfl, by decide +kernel, by decide +kernel⟩
theorem ck_law_rule : MP.chkSs g ⟨fn_law_rule.names, L2.defScope s_law_rule, fun _ => true, fn_law_rule.gen⟩ (L2.defBody s_law_rule) fn_law_rule.body = true := by decide +kernel
theorem sc_law_new_identifiers : L2.FnScope fn_law_new_identifiers.names ["role", "own", "aim"] (L2.defScope s_law_new_identifiers) := ⟨rfl, rfl, rfl, by decide +kernel, rfl, by decide +kernel, by decide +kernel⟩
theorem ck_law_new_identifiers : MP.chkSs g ⟨fn_law_new_identifiers.names, L2.defScope s_law_new_identifiers, fun _ => true, fn_law_new_identifiers.gen⟩ (L2.defBody s_law_new_identifiers) fn_law_new_identifiers.body = true := by decide +kernel
theorem sc_law_issued : L2.FnScope fn_law_issued.names ["ids", "value"] (L2.defScope s_law_issued) := ⟨rfl, rfl, rfl, by decide +kernel, rfl, by decide +kernel, by decide +kernel⟩
theorem ck_law_issued : MP.chkSs g ⟨fn_law_issued.names, L2.defScope s_law_issued, fun _ => true, fn_law_issued.gen⟩ (L2.defBody s_law_issued) fn_law_issued.body = true := by decide +kernel
theorem sc_law_identifier_taken : L2.FnScope fn_law_identifier_taken.names ["ids", "sequence", "value"] (L2.defScope s_law_identifier_taken) := ⟨rfl, rfl, rfl, by decide +kernel, rfl, by decide +kernel, by decide +kernel⟩
theorem ck_law_identifier_taken : MP.chkSs g ⟨fn_law_identifier_taken.names, L2.defScope s_law_identifier_taken, fun _ => true, fn_law_identifier_taken.gen⟩ (L2.defBody s_law_identifier_taken) fn_law_identifier_taken.body = true := by decide +kernel
theorem sc_law_retire_taken : L2.FnScope fn_law_retire_taken.names ["ids", "sequence"] (L2.defScope s_law_retire_taken) := ⟨rfl, rfl, rfl, by decide +kernel, rfl, by decide +kernel, by decide +kernel⟩
theorem ck_law_retire_taken : MP.chkSs g ⟨fn_law_retire_taken.names, L2.defScope s_law_retire_taken, fun _ => true, fn_law_retire_taken.gen⟩ (L2.defBody s_law_retire_taken) fn_law_retire_taken.body = true := by decide +kernel
theorem sc_law_theirs_retired : L2.FnScope fn_law_theirs_retired.names ["ids", "sequence"] (L2.defScope s_law_theirs_retired) := ⟨rfl, rfl, rfl, by decide +kernel, rfl, by decide +kernel, by decide +kernel⟩
theorem ck_law_theirs_retired : MP.chkSs g ⟨fn_law_theirs_retired.names, L2.defScope s_law_theirs_retired, fun _ => true, fn_law_theirs_retired.gen⟩ (L2.defBody s_law_theirs_retired) fn_law_theirs_retired.body = true := by decide +kernel
theorem sc_law_frozen : L2.FnScope fn_law_frozen.names ["one"] (L2.defScope s_law_frozen) := ⟨rfl, rfl, rfl, by decide +kernel, rfl, by decide +kernel, by decide +kernel⟩
theorem ck_law_frozen : MP.chkSs g ⟨fn_law_frozen.names, L2.defScope s_law_frozen, fun _ => true, fn_law_frozen.gen⟩ (L2.defBody s_law_frozen) fn_law_frozen.body = true := by decide +kernel
theorem sc_law_copied : L2.FnScope fn_law_copied.names ["one"] (L2.defScope s_law_copied) := ⟨rfl, rfl, rfl, by decide +kernel, rfl, by decide +kernel, by decide +kernel⟩
theorem ck_law_copied : MP.chkSs g ⟨fn_law_copied.names, L2.defScope s_law_copied, fun _ => true, fn_law_copied.gen⟩ (L2.defBody s_law_copied) fn_law_copied.body = true := by decide +kernel
theorem sc_law_x_path : L2.FnScope fn_law_x_path.names ["role", "profile", "rule", "ends", "zero", "theirs", "ours", "replaces"] (L2.defScope s_law_x_path) := ⟨rfl, rfl, rfl, by decide +kernel, rfl, by decide +kernel, by decide +kernel⟩
theorem ck_law_x_path : MP.chkSs g ⟨fn_law_x_path.names, L2.defScope s_law_x_path, fun _ => true, fn_law_x_path.gen⟩ (L2.defBody s_law_x_path) fn_law_x_path.body = true := by decide +kernel
theorem sc_law_x_main : L2.FnScope fn_law_x_main.names ["t"] (L2.defScope s_law_x_main) := ⟨rfl, rfl, rfl, by decide +kernel, rfl, by decide +kernel, by decide +kernel⟩
theorem ck_law_x_main : MP.chkSs g ⟨fn_law_x_main.names, L2.defScope s_law_x_main, fun _ => true, fn_law_x_main.gen⟩ (L2.defBody s_law_x_main) fn_law_x_main.body = true := by decide +kernel
theorem sc_law_vault : L2.FnScope fn_law_vault.names ["tape"] (L2.defScope s_law_vault) := ⟨rfl, rfl, rfl, by decide +kernel, rfl, by decide +kernel, by decide +kernel⟩
theorem ck_law_vault : MP.chkSs g ⟨fn_law_vault.names, L2.defScope s_law_vault, fun _ => true, fn_law_vault.gen⟩ (L2.defBody s_law_vault) fn_law_vault.body = true := by decide +kernel
theorem sc_law_ring : L2.FnScope fn_law_ring.names ["tape", "vault"] (L2.defScope s_law_ring) := ⟨rfl, rfl, rfl, by decide +kernel, rfl, by decide +kernel, by decide +kernel⟩
theorem ck_law_ring : MP.chkSs g ⟨fn_law_ring.names, L2.defScope s_law_ring, fun _ => true, fn_law_ring.gen⟩ (L2.defBody s_law_ring) fn_law_ring.body = true := by decide +kernel
theorem sc_law_named : L2.FnScope fn_law_named.names ["vault", "ring", "value"] (L2.defScope s_law_named) := ⟨rfl, rfl, rfl, by decide +kernel, rfl, by decide +kernel, by decide +kernel⟩
theorem ck_law_named : MP.chkSs g ⟨fn_law_named.names, L2.defScope s_law_named, fun _ => true, fn_law_named.gen⟩ (L2.defBody s_law_named) fn_law_named.body = true := by decide +kernel
theorem sc_law_made : L2.FnScope fn_law_made.names ["vault", "ring", "server"] (L2.defScope s_law_made) := ⟨rfl, rfl, rfl, by decide +kernel, rfl, by decide +kernel, by decide +kernel⟩
theorem ck_law_made : MP.chkSs g ⟨fn_law_made.names, L2.defScope s_law_made, fun _ => true, fn_law_made.gen⟩ (L2.defBody s_law_made) fn_law_made.body = true := by decide +kernel
theorem sc_law_target : L2.FnScope fn_law_target.names ["tape", "vault"] (L2.defScope s_law_target) := ⟨rfl, rfl, rfl, by decide +kernel, rfl, by decide +kernel, by decide +kernel⟩
theorem ck_law_target : MP.chkSs g ⟨fn_law_target.names, L2.defScope s_law_target, fun _ => true, fn_law_target.gen⟩ (L2.defBody s_law_target) fn_law_target.body = true := by decide +kernel
theorem sc_law_reads : L2.FnScope fn_law_reads.names ["tape", "vault", "ring"] (L2.defScope s_law_reads) := ⟨rfl, rfl, rfl, by decide +kernel, rfl, by decide +kernel, by decide +kernel⟩
theorem ck_law_reads : MP.chkSs g ⟨fn_law_reads.names, L2.defScope s_law_reads, fun _ => true, fn_law_reads.gen⟩ (L2.defBody s_law_reads) fn_law_reads.body = true := by decide +kernel
theorem sc_law_makes : L2.FnScope fn_law_makes.names ["tape", "vault", "ring"] (L2.defScope s_law_makes) := ⟨rfl, rfl, rfl, by decide +kernel, rfl, by decide +kernel, by decide +kernel⟩
theorem ck_law_makes : MP.chkSs g ⟨fn_law_makes.names, L2.defScope s_law_makes, fun _ => true, fn_law_makes.gen⟩ (L2.defBody s_law_makes) fn_law_makes.body = true := by decide +kernel
theorem sc_law_packet : L2.FnScope fn_law_packet.names ["tape", "level", "aim"] (L2.defScope s_law_packet) := ⟨rfl, rfl, rfl, by decide +kernel, rfl, by decide +kernel, by decide +kernel⟩
theorem ck_law_packet : MP.chkSs g ⟨fn_law_packet.names, L2.defScope s_law_packet, fun _ => true, fn_law_packet.gen⟩ (L2.defBody s_law_packet) fn_law_packet.body = true := by decide +kernel
theorem sc_law_routes : L2.FnScope fn_law_routes.names ["tape", "vault", "ring"] (L2.defScope s_law_routes) := ⟨rfl, rfl, rfl, by decide +kernel, rfl, by decide +kernel, by decide +kernel⟩
theorem ck_law_routes : MP.chkSs g ⟨fn_law_routes.names, L2.defScope s_law_routes, fun _ => true, fn_law_routes.gen⟩ (L2.defBody s_law_routes) fn_law_routes.body = true := by decide +kernel
theorem sc_law_id_deed : L2.FnScope fn_law_id_deed.names ["tape", "ids", "fresh"] (L2.defScope s_law_id_deed) := ⟨rfl, rfl, rfl, by decide +kernel, rfl, by decide +kernel, by decide +kernel⟩
theorem ck_law_id_deed : MP.chkSs g ⟨fn_law_id_deed.names, L2.defScope s_law_id_deed, fun _ => true, fn_law_id_deed.gen⟩ (L2.defBody s_law_id_deed) fn_law_id_deed.body = true := by decide +kernel
theorem sc_law_id_told : L2.FnScope fn_law_id_told.names ["ids", "deed"] (L2.defScope s_law_id_told) := ⟨rfl, rfl, rfl, by decide +kernel, rfl, by decide +kernel, by decide +kernel⟩
theorem ck_law_id_told : MP.chkSs g ⟨fn_law_id_told.names, L2.defScope s_law_id_told, fun _ => true, fn_law_id_told.gen⟩ (L2.defBody s_law_id_told) fn_law_id_told.body = true := by decide +kernel
theorem sc_law_id_due : L2.FnScope fn_law_id_due.names ["ids", "deed"] (L2.defScope s_law_id_due) := ⟨rfl, rfl, rfl, by decide +kernel, rfl, by decide +kernel, by decide +kernel⟩
theorem ck_law_id_due : MP.chkSs g ⟨fn_law_id_due.names, L2.defScope s_law_id_due, fun _ => true, fn_law_id_due.gen⟩ (L2.defBody s_law_id_due) fn_law_id_due.body = true := by decide +kernel
theorem sc_law_id_life : L2.FnScope fn_law_id_life.names ["tape"] (L2.defScope s_law_id_life) := ⟨rfl, rfl, rfl, by decide +kernel, rfl, by decide +kernel, by decide +kernel⟩
theorem ck_law_id_life : MP.chkSs g ⟨fn_law_id_life.names, L2.defScope s_law_id_life, fun _ => true, fn_law_id_life.gen⟩ (L2.defBody s_law_id_life) fn_law_id_life.body = true := by decide +kernel
theorem sc_law_some_path : L2.FnScope fn_law_some_path.names ["tape", "profile", "rule", "k"] (L2.defScope s_law_some_path) := ⟨rfl, rfl, rfl, by decide +kernel, rfl, by decide +kernel, by decide +kernel⟩
theorem ck_law_some_path : MP.chkSs g ⟨fn_law_some_path.names, L2.defScope s_law_some_path, fun _ => true, fn_law_some_path.gen⟩ (L2.defBody s_law_some_path) fn_law_some_path.body = true := by decide +kernel
theorem sc_law_answers : L2.FnScope fn_law_answers.names ["door", "paths", "k", "value", "full", "ids"] (L2.defScope s_law_answers) := ⟨rfl, rfl, rfl, by decide +kernel, rfl, by decide +kernel, by decide +kernel⟩
theorem ck_law_answers : MP.chkSs g ⟨fn_law_answers.names, L2.defScope s_law_answers, fun _ => true, fn_law_answers.gen⟩ (L2.defBody s_law_answers) fn_law_answers.body = true := by decide +kernel
theorem sc_law_doors : L2.FnScope fn_law_doors.names ["tape"] (L2.defScope s_law_doors) := ⟨rfl, rfl, rfl, by decide +kernel, rfl, by decide +kernel, by decide +kernel⟩
theorem ck_law_doors : MP.chkSs g ⟨fn_law_doors.names, L2.defScope s_law_doors, fun _ => true, fn_law_doors.gen⟩ (L2.defBody s_law_doors) fn_law_doors.body = true := by decide +kernel
theorem sc_law : L2.FnScope fn_law.names ["script"] (L2.defScope s_law) := ⟨rfl, rfl, rfl, by decide +kernel, rfl, by decide +kernel, by decide +kernel⟩
theorem ck_law : MP.chkSs g ⟨fn_law.names, L2.defScope s_law, fun _ => true, fn_law.gen⟩ (L2.defBody s_law) fn_law.body = true := by decide +kernel
section
open PySem PySem.Spec PyProof.Rows L2 MP
theorem fin {P : Program} {w : World} {K : Fra} {cs : List (Addr × Addr)} {mg : Str → Option Value} {h : Heap} {fa : Addr} (k : Nat) (X : K.In h) (G : h.Ns mainGlobals mg) (hfa : mg ("law" : Str) = some (.ref fa))
    (d0 : DefAt K "changed" s_changed)
    (d1 : DefAt K "size_of" s_size_of)
    (d2 : DefAt K "with_entry" s_with_entry)
    (d3 : DefAt K "row_of" s_row_of)
    (d4 : DefAt K "draw" s_draw)
    (d5 : DefAt K "seal" s_seal)
    (d6 : DefAt K "unseal" s_unseal)
    (d7 : DefAt K "make_identifier" s_make_identifier)
    (d8 : DefAt K "names_server" s_names_server)
    (d9 : DefAt K "read_identifier" s_read_identifier)
    (d10 : DefAt K "new_identifiers" s_new_identifiers)
    (d11 : DefAt K "value_of" s_value_of)
    (d12 : DefAt K "issue_value" s_issue_value)
    (d13 : DefAt K "take_identifier" s_take_identifier)
    {cd14 tb14 : Addr} (m14 : (cd14, tb14) ∈ cs) (d14 : DefG K "take_retire" s_take_retire cd14)
    {cd15 tb15 : Addr} (m15 : (cd15, tb15) ∈ cs) (d15 : DefG K "retire_theirs" s_retire_theirs cd15)
    (d16 : DefAt K "route_datagram" s_route_datagram)
    (d17 : DefAt K "new_controller" s_new_controller)
    (d18 : DefAt K "new_estimate" s_new_estimate)
    (d19 : DefAt K "first_path" s_first_path)
    (d20 : DefAt K "further_path" s_further_path)
    (d21 : DefAt K "allowance" s_allowance)
    (d22 : DefAt K "take_response" s_take_response)
    (d23 : DefAt K "take_challenge" s_take_challenge)
    (d24 : DefAt K "can_be_used" s_can_be_used)
    (d25 : DefAt K "is_free" s_is_free)
    (d26 : DefAt K "main_of" s_main_of)
    (d27 : DefAt K "unused_sequence" s_unused_sequence)
    (d28 : DefAt K "_law_tape" s_law_tape)
    (d29 : DefAt K "_law_draw" s_law_draw)
    (d30 : DefAt K "_law_turns" s_law_turns)
    (d31 : DefAt K "_law_whole" s_law_whole)
    (d32 : DefAt K "_law_same" s_law_same)
    (d33 : DefAt K "_law_rule" s_law_rule)
    (d34 : DefAt K "_law_new_identifiers" s_law_new_identifiers)
    (d35 : DefAt K "_law_issued" s_law_issued)
    (d36 : DefAt K "_law_identifier_taken" s_law_identifier_taken)
    (d37 : DefAt K "_law_retire_taken" s_law_retire_taken)
    (d38 : DefAt K "_law_theirs_retired" s_law_theirs_retired)
    (d39 : DefAt K "_law_frozen" s_law_frozen)
    (d40 : DefAt K "_law_copied" s_law_copied)
    (d41 : DefAt K "_law_x_path" s_law_x_path)
    (d42 : DefAt K "_law_x_main" s_law_x_main)
    (d43 : DefAt K "_law_vault" s_law_vault)
    (d44 : DefAt K "_law_ring" s_law_ring)
    (d45 : DefAt K "_law_named" s_law_named)
    (d46 : DefAt K "_law_made" s_law_made)
    (d47 : DefAt K "_law_target" s_law_target)
    (d48 : DefAt K "_law_reads" s_law_reads)
    (d49 : DefAt K "_law_makes" s_law_makes)
    (d50 : DefAt K "_law_packet" s_law_packet)
    (d51 : DefAt K "_law_routes" s_law_routes)
    (d52 : DefAt K "_law_id_deed" s_law_id_deed)
    (d53 : DefAt K "_law_id_told" s_law_id_told)
    (d54 : DefAt K "_law_id_due" s_law_id_due)
    (d55 : DefAt K "_law_id_life" s_law_id_life)
    (d56 : DefAt K "_law_some_path" s_law_some_path)
    (d57 : DefAt K "_law_answers" s_law_answers)
    (d58 : DefAt K "_law_doors" s_law_doors)
    (d59 : DefAt K "law" s_law)
    (c0 : CnAt K "ROUTE_HEADER" (.tup [.str "route"]))
    (c1 : CnAt K "ROUTE_BOX_SIZE" (.int 3))
    (c2 : CnAt K "GREATEST_SERVER" (.int 63))
    (c3 : CnAt K "MOST_THEIRS" (.int 4))
    (c4 : CnAt K "VALIDATED" (.int 2))
    (c5 : CnAt K "LIMITED" (.int 3))
    (c6 : CnAt K "RECEIVED" (.int 4))
    (c7 : CnAt K "SENT" (.int 5))
    (c8 : CnAt K "CHALLENGE" (.int 6))
    (c9 : CnAt K "DUE" (.int 8))
    (c10 : CnAt K "RESPONSES" (.int 9))
    (c11 : CnAt K "THEIRS" (.int 10))
    (c12 : CnAt K "OURS" (.int 11))
    (c13 : CnAt K "GIVEN_UP" (.int 12))
    (c14 : CnAt K "REPLACES" (.int 13))
    (c15 : CnAt K "ESTIMATE" (.int 14))
    (c16 : CnAt K "CONTROLLER" (.int 15))
    (c17 : CnAt K "UNDER_WAY" (.int 16))
    (c18 : CnAt K "ALARMS" (.int 17))
    (c19 : CnAt K "AMPLIFICATION" (.int 3))
    (c20 : CnAt K "MOST_RESPONSES" (.int 4))
    (c21 : CnAt K "MOST_ALARMS" (.int 3))
    (b0 : PySem.W.nsIn K mainGlobals "len" = some none)
    (b1 : PySem.W.nsIn K mainGlobals "int" = some none)
    (b2 : PySem.W.nsIn K mainGlobals "abs" = some none)
    (b3 : PySem.W.nsIn K mainGlobals "max" = some none)
    (b4 : PySem.W.nsIn K mainGlobals "min" = some none)
    (b5 : PySem.W.nsIn K mainGlobals "sum" = some none)
    (b6 : PySem.W.nsIn K mainGlobals "all" = some none)
    (b7 : PySem.W.nsIn K mainGlobals "any" = some none)
    (b8 : PySem.W.nsIn K mainGlobals "list" = some none)
    (b9 : PySem.W.nsIn K mainGlobals "tuple" = some none)
    (b10 : PySem.W.nsIn K mainGlobals "isinstance" = some none)
    (b11 : PySem.W.nsIn K mainGlobals "range" = some none)
    (b12 : PySem.W.nsIn K mainGlobals "bool" = some none)
    (b13 : PySem.W.nsIn K mainGlobals "str" = some none)
    (b14 : PySem.W.nsIn K mainGlobals "set" = some none)
    (b15 : PySem.W.nsIn K mainGlobals "enumerate" = some none)
    : ∃ fd : FuncData, (∀ (s : Shared) (v : Value), BindsTo s fd ⟨[v], []⟩ [("script", v)]) ∧ ∀ base : Heap, GenIn K mg base cs → FnOk P w K mg base CX0 (k + 1) fa fd ["script"] (spM K g (k + 1) "law") := by
  have M : ModSt K cs mg g := modst X G (all_cons (fnst X G d0 sc_changed rfl (fun _ _ _ _ _ _ us hl => match us, hl with | [_, _, _], _ => rfl) ck_changed rfl) (all_cons (fnst X G d1 sc_size_of rfl (fun _ _ _ _ _ _ us hl => match us, hl with | [_], _ => rfl) ck_size_of rfl) (all_cons (fnst X G d2 sc_with_entry rfl (fun _ _ _ _ _ _ us hl => match us, hl with | [_, _], _ => rfl) ck_with_entry rfl) (all_cons (fnst X G d3 sc_row_of rfl (fun _ _ _ _ _ _ us hl => match us, hl with | [_, _, _], _ => rfl) ck_row_of rfl) (all_cons (fnst X G d4 sc_draw rfl (fun _ _ _ _ _ _ us hl => match us, hl with | [_], _ => rfl) ck_draw rfl) (all_cons (fnst X G d5 sc_seal rfl (fun _ _ _ _ _ _ us hl => match us, hl with | [_, _, _, _, _], _ => rfl) ck_seal rfl) (all_cons (fnst X G d6 sc_unseal rfl (fun _ _ _ _ _ _ us hl => match us, hl with | [_, _, _, _], _ => rfl) ck_unseal rfl) (all_cons (fnst X G d7 sc_make_identifier rfl (fun _ _ _ _ _ _ us hl => match us, hl with | [_, _, _], _ => rfl) ck_make_identifier rfl) (all_cons (fnst X G d8 sc_names_server rfl (fun _ _ _ _ _ _ us hl => match us, hl with | [_], _ => rfl) ck_names_server rfl) (all_cons (fnst X G d9 sc_read_identifier rfl (fun _ _ _ _ _ _ us hl => match us, hl with | [_, _, _], _ => rfl) ck_read_identifier rfl) (all_cons (fnst X G d10 sc_new_identifiers rfl (fun _ _ _ _ _ _ us hl => match us, hl with | [_, _, _], _ => rfl) ck_new_identifiers rfl) (all_cons (fnst X G d11 sc_value_of rfl (fun _ _ _ _ _ _ us hl => match us, hl with | [_, _], _ => rfl) ck_value_of rfl) (all_cons (fnst X G d12 sc_issue_value rfl (fun _ _ _ _ _ _ us hl => match us, hl with | [_, _], _ => rfl) ck_issue_value rfl) (all_cons (fnst X G d13 sc_take_identifier rfl (fun _ _ _ _ _ _ us hl => match us, hl with | [_, _, _], _ => rfl) ck_take_identifier rfl) (all_cons (fnstD X G d14 sc_take_retire rfl (fun _ _ _ _ _ _ us hl => match us, hl with | [_, _], _ => rfl) ck_take_retire m14) (all_cons (fnstD X G d15 sc_retire_theirs rfl (fun _ _ _ _ _ _ us hl => match us, hl with | [_, _], _ => rfl) ck_retire_theirs m15) (all_cons (fnst X G d16 sc_route_datagram rfl (fun _ _ _ _ _ _ us hl => match us, hl with | [_, _, _, _], _ => rfl) ck_route_datagram rfl) (all_cons (fnst X G d17 sc_new_controller rfl (fun _ _ _ _ _ _ us hl => match us, hl with | [_, _, _], _ => rfl) ck_new_controller rfl) (all_cons (fnst X G d18 sc_new_estimate rfl (fun _ _ _ _ _ _ us hl => match us, hl with | [_], _ => rfl) ck_new_estimate rfl) (all_cons (fnst X G d19 sc_first_path rfl (fun _ _ _ _ _ _ us hl => match us, hl with | [_, _, _, _, _], _ => rfl) ck_first_path rfl) (all_cons (fnst X G d20 sc_further_path rfl (fun _ _ _ _ _ _ us hl => match us, hl with | [_, _, _, _, _, _, _, _], _ => rfl) ck_further_path rfl) (all_cons (fnst X G d21 sc_allowance rfl (fun _ _ _ _ _ _ us hl => match us, hl with | [_], _ => rfl) ck_allowance rfl) (all_cons (fnst X G d22 sc_take_response rfl (fun _ _ _ _ _ _ us hl => match us, hl with | [_, _], _ => rfl) ck_take_response rfl) (all_cons (fnst X G d23 sc_take_challenge rfl (fun _ _ _ _ _ _ us hl => match us, hl with | [_, _], _ => rfl) ck_take_challenge rfl) (all_cons (fnst X G d24 sc_can_be_used rfl (fun _ _ _ _ _ _ us hl => match us, hl with | [_], _ => rfl) ck_can_be_used rfl) (all_cons (fnst X G d25 sc_is_free rfl (fun _ _ _ _ _ _ us hl => match us, hl with | [_, _], _ => rfl) ck_is_free rfl) (all_cons (fnst X G d26 sc_main_of rfl (fun _ _ _ _ _ _ us hl => match us, hl with | [_, _], _ => rfl) ck_main_of rfl) (all_cons (fnst X G d27 sc_unused_sequence rfl (fun _ _ _ _ _ _ us hl => match us, hl with | [_, _], _ => rfl) ck_unused_sequence rfl) (all_cons (fnst X G d28 sc_law_tape rfl (fun _ _ _ _ _ _ us hl => match us, hl with | [_], _ => rfl) ck_law_tape rfl) (all_cons (fnst X G d29 sc_law_draw rfl (fun _ _ _ _ _ _ us hl => match us, hl with | [_, _], _ => rfl) ck_law_draw rfl) (all_cons (fnst X G d30 sc_law_turns rfl (fun _ _ _ _ _ _ us hl => match us, hl with | [_, _], _ => rfl) ck_law_turns rfl) (all_cons (fnst X G d31 sc_law_whole rfl (fun _ _ _ _ _ _ us hl => match us, hl with | [_], _ => rfl) ck_law_whole rfl) (all_cons (fnst X G d32 sc_law_same rfl (fun _ _ _ _ _ _ us hl => match us, hl with | [_, _], _ => rfl) ck_law_same rfl) (all_cons (fnst X G d33 sc_law_rule rfl (fun _ _ _ _ _ _ us hl => match us, hl with | [_, _], _ => rfl) ck_law_rule rfl) (all_cons (fnst X G d34 sc_law_new_identifiers rfl (fun _ _ _ _ _ _ us hl => match us, hl with | [_, _, _], _ => rfl) ck_law_new_identifiers rfl) (all_cons (fnst X G d35 sc_law_issued rfl (fun _ _ _ _ _ _ us hl => match us, hl with | [_, _], _ => rfl) ck_law_issued rfl) (all_cons (fnst X G d36 sc_law_identifier_taken rfl (fun _ _ _ _ _ _ us hl => match us, hl with | [_, _, _], _ => rfl) ck_law_identifier_taken rfl) (all_cons (fnst X G d37 sc_law_retire_taken rfl (fun _ _ _ _ _ _ us hl => match us, hl with | [_, _], _ => rfl) ck_law_retire_taken rfl) (all_cons (fnst X G d38 sc_law_theirs_retired rfl (fun _ _ _ _ _ _ us hl => match us, hl with | [_, _], _ => rfl) ck_law_theirs_retired rfl) (all_cons (fnst X G d39 sc_law_frozen rfl (fun _ _ _ _ _ _ us hl => match us, hl with | [_], _ => rfl) ck_law_frozen rfl) (all_cons (fnst X G d40 sc_law_copied rfl (fun _ _ _ _ _ _ us hl => match us, hl with | [_], _ => rfl) ck_law_copied rfl) (all_cons (fnst X G d41 sc_law_x_path rfl (fun _ _ _ _ _ _ us hl => match us, hl with | [_, _, _, _, _, _, _, _], _ => rfl) ck_law_x_path rfl) (all_cons (fnst X G d42 sc_law_x_main rfl (fun _ _ _ _ _ _ us hl => match us, hl with | [_], _ => rfl) ck_law_x_main rfl) (all_cons (fnst X G d43 sc_law_vault rfl (fun _ _ _ _ _ _ us hl => match us, hl with | [_], _ => rfl) ck_law_vault rfl) (all_cons (fnst X G d44 sc_law_ring rfl (fun _ _ _ _ _ _ us hl => match us, hl with | [_, _], _ => rfl) ck_law_ring rfl) (all_cons (fnst X G d45 sc_law_named rfl (fun _ _ _ _ _ _ us hl => match us, hl with | [_, _, _], _ => rfl) ck_law_named rfl) (all_cons (fnst X G d46 sc_law_made rfl (fun _ _ _ _ _ _ us hl => match us, hl with | [_, _, _], _ => rfl) ck_law_made rfl) (all_cons (fnst X G d47 sc_law_target rfl (fun _ _ _ _ _ _ us hl => match us, hl with | [_, _], _ => rfl) ck_law_target rfl) (all_cons (fnst X G d48 sc_law_reads rfl (fun _ _ _ _ _ _ us hl => match us, hl with | [_, _, _], _ => rfl) ck_law_reads rfl) (all_cons (fnst X G d49 sc_law_makes rfl (fun _ _ _ _ _ _ us hl => match us, hl with | [_, _, _], _ => rfl) ck_law_makes rfl) (all_cons (fnst X G d50 sc_law_packet rfl (fun _ _ _ _ _ _ us hl => match us, hl with | [_, _, _], _ => rfl) ck_law_packet rfl) (all_cons (fnst X G d51 sc_law_routes rfl (fun _ _ _ _ _ _ us hl => match us, hl with | [_, _, _], _ => rfl) ck_law_routes rfl) (all_cons (fnst X G d52 sc_law_id_deed rfl (fun _ _ _ _ _ _ us hl => match us, hl with | [_, _, _], _ => rfl) ck_law_id_deed rfl) (all_cons (fnst X G d53 sc_law_id_told rfl (fun _ _ _ _ _ _ us hl => match us, hl with | [_, _], _ => rfl) ck_law_id_told rfl) (all_cons (fnst X G d54 sc_law_id_due rfl (fun _ _ _ _ _ _ us hl => match us, hl with | [_, _], _ => rfl) ck_law_id_due rfl) (all_cons (fnst X G d55 sc_law_id_life rfl (fun _ _ _ _ _ _ us hl => match us, hl with | [_], _ => rfl) ck_law_id_life rfl) (all_cons (fnst X G d56 sc_law_some_path rfl (fun _ _ _ _ _ _ us hl => match us, hl with | [_, _, _, _], _ => rfl) ck_law_some_path rfl) (all_cons (fnst X G d57 sc_law_answers rfl (fun _ _ _ _ _ _ us hl => match us, hl with | [_, _, _, _, _, _], _ => rfl) ck_law_answers rfl) (all_cons (fnst X G d58 sc_law_doors rfl (fun _ _ _ _ _ _ us hl => match us, hl with | [_], _ => rfl) ck_law_doors rfl) (all_cons (fnst X G d59 sc_law rfl (fun _ _ _ _ _ _ us hl => match us, hl with | [_], _ => rfl) ck_law rfl) all_nil)))))))))))))))))))))))))))))))))))))))))))))))))))))))))))) (all_cons c0 (all_cons c1 (all_cons c2 (all_cons c3 (all_cons c4 (all_cons c5 (all_cons c6 (all_cons c7 (all_cons c8 (all_cons c9 (all_cons c10 (all_cons c11 (all_cons c12 (all_cons c13 (all_cons c14 (all_cons c15 (all_cons c16 (all_cons c17 (all_cons c18 (all_cons c19 (all_cons c20 (all_cons c21 all_nil)))))))))))))))))))))) (all_cons b0 (all_cons b1 (all_cons b2 (all_cons b3 (all_cons b4 (all_cons b5 (all_cons b6 (all_cons b7 (all_cons b8 (all_cons b9 (all_cons b10 (all_cons b11 (all_cons b12 (all_cons b13 (all_cons b14 (all_cons b15 all_nil))))))))))))))))
  exact law_mk (st := s_law) (i := fn_law) X G hfa d59 rfl M rfl (fun _ _ _ _ _ _ _ _ => .of_eq rfl) (fun _ _ _ _ _ _ => sc_law) rfl ck_law
end
end K56
namespace K56
open PySem MP
variable (hand : Hand)
/-- by hand is one def alone -/
def HandOk (hand : Hand) : Prop := ∀ k f args, f ≠ ("_law_answers" : Str) → hand k f args = none
/-- plain things, at most n deep -/
def pl : Nat → MV → Prop
  | _, .non => True
  | _, .bl _ => True
  | _, .int _ => True
  | _, .str x => PyData.strOk x = true
  | 0, .tup _ => False
  | n + 1, .tup xs => xs.length ≤ 1000000 ∧ ∀ x ∈ xs, pl n x
  | _, _ => False
theorem eqK (a b c : Bool) : eqM [] (.frl [.bl a, .bl b, .bl c]) (.frl [.bl a, .bl b, .bl c]) = some true := by
  cases a <;> cases b <;> cases c <;> decide +kernel
theorem px_in_false {n : Nat} : inM [] (.bl false) (.frl (List.map (fun _ => MV.bl true) (List.range n))) = some false := by
  unfold inM
  simp [flatM, eqF]
theorem p_same (hh : HandOk hand) : ∀ (n : Nat) (v : MV), pl n v → ∀ (k : Nat), prun g hand (k + n + 1) "_law_same" [.d v, .d v] = some (.d (.bl true), [])
  | n, .non, _, k => by
    rw [prun_d (i := fn_law_same) rfl (hh _ _ _ (by decide)) rfl rfl]; unfold fn_law_same; simp -implicitDefEqProofs -dsimp
  | n, .bl b, _, k => by
    rw [prun_d (i := fn_law_same) rfl (hh _ _ _ (by decide)) rfl rfl]; unfold fn_law_same
    apply eq_of_ok
    simp -implicitDefEqProofs -dsimp
    refine comp_map id (fun v => match v with | .bl _ => .frl [.bl true, .bl false, .bl true] | _ => .non) [.bl b, .bl b] rfl (fun a ha => by
      simp at ha
      subst ha
      simp -implicitDefEqProofs -dsimp) fun env' he => ?_
    simp -implicitDefEqProofs -dsimp [he, restP_1, L2.atI, L2.ixN, eqK]
  | n, .int b, _, k => by
    rw [prun_d (i := fn_law_same) rfl (hh _ _ _ (by decide)) rfl rfl]; unfold fn_law_same
    apply eq_of_ok
    simp -implicitDefEqProofs -dsimp
    refine comp_map id (fun v => .frl [.bl false, .bl false, .bl true]) [.int b, .int b] rfl (fun a ha => by
      simp at ha
      subst ha
      simp -implicitDefEqProofs -dsimp) fun env' he => ?_
    simp -implicitDefEqProofs -dsimp [he, restP_1, L2.atI, L2.ixN, eqK]
  | n, .str b, p, k => by
    have p' : PyData.strOk b = true := by cases n <;> simpa [pl] using p
    rw [prun_d (i := fn_law_same) rfl (hh _ _ _ (by decide)) rfl rfl]; unfold fn_law_same
    apply eq_of_ok
    simp -implicitDefEqProofs -dsimp
    refine comp_map id (fun v => .frl [.bl false, .bl true, .bl false]) [.str b, .str b] rfl (fun a ha => by
      simp at ha
      subst ha
      simp -implicitDefEqProofs -dsimp) fun env' he => ?_
    simp -implicitDefEqProofs -dsimp [he, restP_1, L2.atI, L2.ixN, eqK, eqM_str _ _ _ p' p']
  | 0, .tup xs, p, k => by simp [pl] at p
  | n + 1, .tup xs, p, k => by
    simp only [pl] at p
    have ih := fun x (hx : x ∈ xs) => p_same hh n x (p.2 x hx) k
    have lk := p.1
    show prun g hand ((k + n + 1) + 1) _ _ = _
    rw [prun_d (i := fn_law_same) rfl (hh _ _ _ (by decide)) rfl rfl]; unfold fn_law_same
    apply eq_of_ok
    simp -implicitDefEqProofs -dsimp [rng1_items (n := xs.length) (by omega)]
    refine comp_map (fun i : Nat => MV.int (i : Int)) (fun _ => .bl true) (List.range xs.length) rfl (fun a ha => by
      have hlt : a < xs.length := by simpa using ha
      have e := ih _ (List.getElem_mem hlt)
      simp -implicitDefEqProofs -dsimp [atI_nat hlt, e]) fun env' he => ?_
    simp -implicitDefEqProofs -dsimp [he, restP_1, px_in_false]
  | 0, .frl _, p, _ => by simp [pl] at p
  | n + 1, .frl _, p, _ => by simp [pl] at p
  | 0, .ref _, p, _ => by simp [pl] at p
  | n + 1, .ref _, p, _ => by simp [pl] at p
end K56
namespace K56
open PySem MP
inductive Hd | route | app | zero | nil
inductive Ct | one (s : Nat) | two (x y : Nat) | nil | a | int (s : Nat) | nest (s : Nat)
def Hd.mv : Hd → MV
  | .route => .tup [.str "route"]
  | .app => .tup [.str "app", .int 4, .int 0]
  | .zero => .tup [.str "route", .int 0]
  | .nil => .tup []
def Ct.mv : Ct → MV
  | .one s => .tup [.int s]
  | .two x y => .tup [.int x, .int y]
  | .nil => .tup []
  | .a => .tup [.str "a"]
  | .int s => .int s
  | .nest s => .tup [.tup [.int s]]
inductive Row
  | pub (k : Nat) | box (k : Nat) (n : Nat) (h : Hd) (c : Ct) | drawn | tag (k s : Nat) | sig (k s : Nat) | wrap (k s : Nat)
def Row.mv : Row → MV
  | .pub k => .tup [.str "public", .int k]
  | .box k n h c => .tup [.str "box", .int k, .int n, h.mv, c.mv]
  | .drawn => .tup [.str "drawn"]
  | .tag k s => .tup [.str "tag", .int k, .tup [.int s]]
  | .sig k s => .tup [.str "signature", .int k, .tup [.int s]]
  | .wrap k s => .tup [.str "wrapped", .int k, .tup [.str "route"], .int 0, .tup [.int s]]
structure Vault where
  sec : List Nat
  rows : List Row
structure Vault.Ok (v : Vault) : Prop where
  s : v.sec.length ≤ 100
  r : v.rows.length ≤ 100
structure Ring where
  keys : List Nat
  most : Int
def secM (k : Nat) : MV := .tup [.str "pair", .int k]
def nats (is : List Nat) : MV := .tup (is.map fun i => .int (i : Nat))
def Vault.mv (v : Vault) : MV := .tup [.tup (v.sec.map secM), .tup (v.rows.map Row.mv)]
def Ring.mv (r : Ring) : MV := .tup [nats r.keys, .int r.most]
def optN : Option Nat → MV
  | none => .non
  | some i => .int i
def hasN (is : List Nat) (i : Nat) : Bool := is.any (· == i)
def readC (keys : List Nat) : Row → Option Nat
  | .box k _ .route (.one s) => if hasN keys k && decide (s ≤ 63) then some s else none
  | _ => none
def readV (v : Vault) (keys : List Nat) (value : Nat) : Option Nat := (v.rows[value]?).bind (readC keys)
@[simp] theorem Hd_data (h : Hd) : h.mv.data = true := by cases h <;> simp [Hd.mv]
@[simp] theorem Ct_data (h : Ct) : h.mv.data = true := by cases h <;> simp [Ct.mv]
@[simp] theorem nats_data (is) : (nats is).data = true := by
  unfold nats; rw [data_tup, dataAll_iff]; intro x hx; obtain ⟨p, _, rfl⟩ := List.mem_map.mp hx; simp
@[simp] theorem V0 (v : Vault) : atM [] v.mv (.int 0) = some (.tup (v.sec.map secM)) := rfl
@[simp] theorem V1 (v : Vault) : atM [] v.mv (.int 1) = some (.tup (v.rows.map Row.mv)) := rfl
@[simp] theorem R0 (r : Ring) : atM [] r.mv (.int 0) = some (nats r.keys) := rfl
@[simp] theorem R1 (r : Ring) : atM [] r.mv (.int 1) = some (.int r.most) := rfl
theorem in_nats (is : List Nat) (i : Nat) : inM [] (.int i) (nats is) = some (hasN is i) := by
  unfold inM nats
  have : (is.map fun i => MV.int (i : Nat)).all flatM = true := by simp [flatM]
  simp only [seq_tup, Option.bind_some]
  rw [if_pos ⟨rfl, this⟩]
  congr 1
  clear this
  induction is with
  | nil => rfl
  | cons a is ih =>
    simp only [List.map_cons, List.any_cons, hasN] at ih ⊢
    rw [ih]
    congr 1
    simp only [eqF]
    rw [Bool.eq_iff_iff]
    simp
    omega
theorem row_at (v : Vault) {n : Nat} (h : n < v.rows.length) : L2.atI (v.rows.map Row.mv) (n : Int) = some v.rows[n].mv := by
  rw [atI_nat (by simpa using h)]; simp
@[simp] theorem str_public_box : eqM [] (.str "public") (.str "box") = some false := by decide +kernel
@[simp] theorem str_box_box : eqM [] (.str "box") (.str "box") = some true := by decide +kernel
@[simp] theorem str_drawn_box : eqM [] (.str "drawn") (.str "box") = some false := by decide +kernel
@[simp] theorem str_tag_box : eqM [] (.str "tag") (.str "box") = some false := by decide +kernel
@[simp] theorem str_signature_box : eqM [] (.str "signature") (.str "box") = some false := by decide +kernel
@[simp] theorem str_wrapped_box : eqM [] (.str "wrapped") (.str "box") = some false := by decide +kernel
@[simp] theorem str_client_client : eqM [] (.str "client") (.str "client") = some true := by decide +kernel
@[simp] theorem str_client_server : eqM [] (.str "client") (.str "server") = some false := by decide +kernel
@[simp] theorem str_server_client : eqM [] (.str "server") (.str "client") = some false := by decide +kernel
@[simp] theorem str_server_server : eqM [] (.str "server") (.str "server") = some true := by decide +kernel
@[simp] theorem str_hello_hello : eqM [] (.str "hello") (.str "hello") = some true := by decide +kernel
@[simp] theorem str_hello_app : eqM [] (.str "hello") (.str "app") = some false := by decide +kernel
@[simp] theorem str_early_hello : eqM [] (.str "early") (.str "hello") = some false := by decide +kernel
@[simp] theorem str_early_app : eqM [] (.str "early") (.str "app") = some false := by decide +kernel
@[simp] theorem str_app_hello : eqM [] (.str "app") (.str "hello") = some false := by decide +kernel
@[simp] theorem str_app_app : eqM [] (.str "app") (.str "app") = some true := by decide +kernel
@[simp] theorem str_take_take : eqM [] (.str "take") (.str "take") = some true := by decide +kernel
@[simp] theorem str_take_retire : eqM [] (.str "take") (.str "retire") = some false := by decide +kernel
@[simp] theorem str_take_theirs : eqM [] (.str "take") (.str "theirs") = some false := by decide +kernel
@[simp] theorem str_retire_take : eqM [] (.str "retire") (.str "take") = some false := by decide +kernel
@[simp] theorem str_retire_retire : eqM [] (.str "retire") (.str "retire") = some true := by decide +kernel
@[simp] theorem str_retire_theirs : eqM [] (.str "retire") (.str "theirs") = some false := by decide +kernel
@[simp] theorem str_theirs_take : eqM [] (.str "theirs") (.str "take") = some false := by decide +kernel
@[simp] theorem str_theirs_retire : eqM [] (.str "theirs") (.str "retire") = some false := by decide +kernel
@[simp] theorem str_theirs_theirs : eqM [] (.str "theirs") (.str "theirs") = some true := by decide +kernel
@[simp] theorem str_issue_take : eqM [] (.str "issue") (.str "take") = some false := by decide +kernel
@[simp] theorem str_issue_retire : eqM [] (.str "issue") (.str "retire") = some false := by decide +kernel
@[simp] theorem str_issue_theirs : eqM [] (.str "issue") (.str "theirs") = some false := by decide +kernel
def isBox : Row → Bool
  | .box .. => true
  | _ => false
@[simp] theorem row0 (r : Row) : (atM [] r.mv (.int 0)).bind (fun v => eqM [] v (.str "box")) = some (isBox r) := by
  cases r <;> simp [Row.mv, isBox] <;> decide +kernel
theorem hd_eq (h : Hd) : eqM [] h.mv (.tup [.str "route"]) = some (match h with | .route => true | _ => false) := by cases h <;> decide +kernel
variable {hand : Hand} (hh : HandOk hand)
include hh
theorem p_whole (k : Nat) (v : MV) (b : Bool) (h : (match v with | .int _ => true | _ => false) = b) (hd : v.data = true) : prun g hand (k + 1) "_law_whole" [.d v] = some (.d (.bl b), []) := by
  rw [prun_d (i := fn_law_whole) rfl (hh _ _ _ (by decide)) rfl rfl]; unfold fn_law_whole
  subst h
  cases v <;> first | (simp [MV.data] at hd; done) | simp -implicitDefEqProofs -dsimp
theorem p_named (k : Nat) (v : Vault) (r : Ring) (value : Nat) : prun g hand (k + 2) "_law_named" [.d v.mv, .d r.mv, .d (.int value)] = some (.d (optN (readV v r.keys value)), []) := by
  rw [prun_d (i := fn_law_named) rfl (hh _ _ _ (by decide)) rfl rfl]; unfold fn_law_named
  unfold readV
  by_cases hv : value < v.rows.length
  · have h1 : ¬ v.rows.length ≤ value := by omega
    have e := row_at v hv
    rw [List.getElem?_eq_getElem hv]
    generalize v.rows[value] = row at e ⊢
    have w := fun (v : MV) (b : Bool) (h : (match v with | .int _ => true | _ => false) = b) (hd : v.data = true) => p_whole hh k v b h hd
    cases row with
    | box k' n h c =>
      cases hk : hasN r.keys k' with
      | false =>
        have : readC r.keys (.box k' n h c) = none := by cases h <;> cases c <;> simp [readC, hk]
        simp -implicitDefEqProofs -dsimp [h1, e, Row.mv, in_nats, hk, this, optN]
      | true =>
        cases h with
        | route =>
          cases c with
          | one s =>
            by_cases hs : s ≤ 63
            · have hs' : (s : Int) ≤ 63 := by omega
              simp -implicitDefEqProofs -dsimp [h1, e, Row.mv, in_nats, hk, hd_eq, Ct.mv, w (.int s) true rfl, hs', hs, readC, optN]
            · have hs' : ¬ (s : Int) ≤ 63 := by omega
              simp -implicitDefEqProofs -dsimp [h1, e, Row.mv, in_nats, hk, hd_eq, Ct.mv, w (.int s) true rfl, hs', hs, readC, optN]
          | a =>
            simp -implicitDefEqProofs -dsimp [h1, e, Row.mv, in_nats, hk, hd_eq, Ct.mv, w (.str "a") false rfl, readC, optN]
          | nest s =>
            simp -implicitDefEqProofs -dsimp [h1, e, Row.mv, in_nats, hk, hd_eq, Ct.mv, w (.tup [.int s]) false rfl, readC, optN]
          | _ => simp -implicitDefEqProofs -dsimp [h1, e, Row.mv, in_nats, hk, hd_eq, Ct.mv, readC, optN]
        | _ => simp -implicitDefEqProofs -dsimp [h1, e, Row.mv, in_nats, hk, hd_eq, readC, optN]
    | _ => simp -implicitDefEqProofs -dsimp [h1, e, Row.mv, readC, optN]
  · have h1 : v.rows.length ≤ value := by omega
    rw [List.getElem?_eq_none h1]
    simp -implicitDefEqProofs -dsimp [h1, optN]
end K56
namespace K56
open PySem MP
def sz : Ct → Int
  | .one _ => 1
  | .two _ _ => 2
  | .nil => 0
  | .a => 1
  | .int _ => 1
  | .nest _ => 1
def sealed (v : Vault) (key value : Nat) : MV := match v.rows[value]? with
  | some (.box k n .route c) => if k = key ∧ sz c = 1 then .tup [.int n, c.mv] else .non
  | _ => .non
theorem g_RH : (g.cns.lookup ("ROUTE_HEADER" : Str)) = some (.tup [.str "route"]) := rfl
theorem g_RB : (g.cns.lookup ("ROUTE_BOX_SIZE" : Str)) = some (.int 3) := rfl
theorem g_GS : (g.cns.lookup ("GREATEST_SERVER" : Str)) = some (.int 63) := rfl
variable {hand : Hand}
section
variable (cp : Str → List PV → Option (PV × List (List MV))) (env : PEnv)
@[simp] theorem x_RH : pX g cp (.glob "ROUTE_HEADER") env = some (.d (.tup [.str "route"]), env) := px_glob g cp env g_RH (by simp)
@[simp] theorem x_RB : pX g cp (.glob "ROUTE_BOX_SIZE") env = some (.d (.int 3), env) := px_glob g cp env g_RB (by simp)
@[simp] theorem x_GS : pX g cp (.glob "GREATEST_SERVER") env = some (.d (.int 63), env) := px_glob g cp env g_GS (by simp)
end
variable (hh : HandOk hand)
include hh
theorem p_size_int (k : Nat) (i : Int) : prun g hand (k + 1) "size_of" [.d (.int i)] = some (.d (.int 1), []) := by
  rw [prun_d (i := fn_size_of) rfl (hh _ _ _ (by decide)) rfl rfl]; unfold fn_size_of; simp -implicitDefEqProofs -dsimp
theorem p_size_str (k : Nat) (i : Str) : prun g hand (k + 1) "size_of" [.d (.str i)] = some (.d (.int 1), []) := by
  rw [prun_d (i := fn_size_of) rfl (hh _ _ _ (by decide)) rfl rfl]; unfold fn_size_of; simp -implicitDefEqProofs -dsimp
theorem p_size_tup (k : Nat) (xs : List MV) (f : MV → Int) (h : ∀ x ∈ xs, prun g hand (k + 1) "size_of" [.d x] = some (.d (.int (f x)), [])) : prun g hand (k + 2) "size_of" [.d (.tup xs)] = some (.d (.int (xs.map f).sum), []) := by
  rw [prun_d (i := fn_size_of) rfl (hh _ _ _ (by decide)) rfl rfl]; unfold fn_size_of
  apply eq_of_ok
  simp -implicitDefEqProofs -dsimp
  refine comp_map id (fun x => .int (f x)) xs (by simp) (fun a ha => by
    simp -implicitDefEqProofs -dsimp [h a ha]) fun env' he => ?_
  have e : List.map (fun x => MV.int (f x)) xs = (xs.map f).map .int := by simp
  rw [e]
  simp -implicitDefEqProofs -dsimp [he, restP_1, intsM_map, -List.map_map]
theorem p_size (k : Nat) (c : Ct) : prun g hand (k + 3) "size_of" [.d c.mv] = some (.d (.int (sz c)), []) := by
  cases c with
  | int s => exact p_size_int hh _ _
  | one s => exact p_size_tup hh (k + 1) _ (fun _ => 1) fun x hx => by simp at hx; subst hx; exact p_size_int hh _ _
  | two x y => exact p_size_tup hh (k + 1) _ (fun _ => 1) fun x hx => by simp at hx; rcases hx with rfl | rfl <;> exact p_size_int hh _ _
  | nil => exact p_size_tup hh (k + 1) _ (fun _ => 1) fun x hx => by simp at hx
  | a => exact p_size_tup hh (k + 1) _ (fun _ => 1) fun x hx => by simp at hx; subst hx; exact p_size_str hh _ _
  | nest s =>
    refine p_size_tup hh (k + 1) _ (fun _ => 1) fun x hx => ?_
    simp at hx; subst hx
    exact p_size_tup hh k _ (fun _ => 1) fun x hx => by simp at hx; subst hx; exact p_size_int hh _ _
theorem p_row_of (k : Nat) (v : Vault) (value : Nat) : prun g hand (k + 1) "row_of" [.d v.mv, .d (.int value), .d (.str "box")] = some (.d (match v.rows[value]? with | some (.box a b c d) => (Row.box a b c d).mv | _ => .non), []) := by
  rw [prun_d (i := fn_row_of) rfl (hh _ _ _ (by decide)) rfl rfl]; unfold fn_row_of
  by_cases hv : value < v.rows.length
  · have e := row_at v hv
    rw [List.getElem?_eq_getElem hv]
    generalize v.rows[value] = row at e ⊢
    cases row <;> simp -implicitDefEqProofs -dsimp [hv, e, Row.mv]
  · rw [List.getElem?_eq_none (by omega)]
    simp -implicitDefEqProofs -dsimp [hv]
theorem p_unseal (k : Nat) (v : Vault) (key value : Nat) : prun g hand (k + 4) "unseal" [.d v.mv, .d (.int key), .d (.tup [.str "route"]), .d (.tup [.int value, .int 3])] = some (.d (sealed v key value), []) := by
  rw [prun_d (i := fn_unseal) rfl (hh _ _ _ (by decide)) rfl rfl]; unfold fn_unseal
  have e := p_row_of hh (k + 2) v value
  unfold sealed
  cases hr : v.rows[value]? with
  | none =>
    rw [hr] at e
    simp -implicitDefEqProofs -dsimp [e]
  | some row =>
    rw [hr] at e
    cases row with
    | box k' n h c =>
      have z := p_size hh k c
      by_cases hk : k' = key
      · subst hk
        cases h with
        | route =>
          by_cases hz : sz c = 1
          · simp -implicitDefEqProofs -dsimp [e, Row.mv, hd_eq, z, hz]
          · have hz' : ¬ (3 : Int) = sz c + 2 := by omega
            simp -implicitDefEqProofs -dsimp [e, Row.mv, hd_eq, z, hz, hz']
        | _ => simp -implicitDefEqProofs -dsimp [e, Row.mv, hd_eq]
      · have hk' : ¬ (k' : Int) = key := by omega
        simp -implicitDefEqProofs -dsimp [e, Row.mv, hk']
        cases h <;> simp [hk]
    | _ => simp -implicitDefEqProofs -dsimp [e]
end K56
namespace K56
open PySem MP
variable {hand : Hand} (hh : HandOk hand)
include hh
theorem p_names (k : Nat) (c : Ct) : prun g hand (k + 1) "names_server" [.d c.mv] = some (.d (.bl (match c with | .one s => decide (s ≤ 63) | _ => false)), []) := by
  rw [prun_d (i := fn_names_server) rfl (hh _ _ _ (by decide)) rfl rfl]; unfold fn_names_server
  cases c with
  | one s => simp -implicitDefEqProofs -dsimp [Ct.mv]; constructor <;> intro h <;> omega
  | _ => simp -implicitDefEqProofs -dsimp [Ct.mv]
def readK (v : Vault) (key value : Nat) : Option Nat := match v.rows[value]? with
  | some (.box k _ .route (.one s)) => if k = key ∧ s ≤ 63 then some s else none
  | _ => none
omit hh in
theorem readV_cons (v : Vault) (key : Nat) (ks : List Nat) (value : Nat) : readV v (key :: ks) value = match readK v key value with
    | some s => some s
    | none => readV v ks value := by
  unfold readV readK
  cases v.rows[value]? with
  | none => rfl
  | some row =>
    cases row with
    | box k n h c =>
      cases h with
      | route =>
        cases c with
        | one s =>
          simp only [Option.bind_some, readC, hasN, List.any_cons]
          by_cases h1 : key = k
          · by_cases h2 : s ≤ 63 <;> simp [h1, h2]
          · have : ¬ k = key := fun z => h1 z.symm
            simp [h1, this]
        | _ => rfl
      | _ => rfl
    | _ => rfl
omit hh in
theorem readV_nil (v : Vault) (value : Nat) : readV v [] value = none := by
  unfold readV
  cases v.rows[value]? with
  | none => rfl
  | some row =>
    cases row with
    | box k n h c => cases h <;> cases c <;> rfl
    | _ => rfl
theorem p_read (k : Nat) (v : Vault) (r : Ring) (value : Nat) : prun g hand (k + 5) "read_identifier" [.d v.mv, .d r.mv, .d (.int value)] = some (.d (optN (readV v r.keys value)), []) := by
  rw [prun_d (i := fn_read_identifier) rfl (hh _ _ _ (by decide)) rfl rfl]; unfold fn_read_identifier
  apply eq_of_ok
  simp -implicitDefEqProofs -dsimp
  rw [ps_for _ _ _ _ _ _ _ _ (useV_no _ rfl)]
  simp -implicitDefEqProofs -dsimp [nats]
  refine for_go (fun its e => ∃ (ks : List Nat) (y3 y4 : Option PV), its = ks.map (fun i => MV.int (i : Nat)) ∧ e = [some (.d v.mv), some (.d r.mv), some (.d (.int value)), y3, y4] ∧ readV v r.keys value = readV v ks value)
    (fun w e => ∃ y3 y4, w = .d (optN (readV v r.keys value)) ∧ e = [some (.d v.mv), some (.d r.mv), some (.d (.int value)), y3, y4]) ⟨r.keys, none, none, rfl, rfl, rfl⟩ ?_ ?_ ?_
  · rintro x vs e ⟨ks, y3, y4, h1, rfl, h2⟩
    cases ks with
    | nil => simp at h1
    | cons key ks =>
      simp only [List.map_cons, List.cons.injEq] at h1
      obtain ⟨rfl, rfl⟩ := h1
      have u := p_unseal hh k v key value
      have n := p_names hh (k + 3)
      rw [readV_cons] at h2
      simp -implicitDefEqProofs -dsimp
      have keep : readK v key value = none → sealed v key value = .non ∨ (∃ (n : Nat) (c : Ct), sealed v key value = .tup [.int n, c.mv] ∧ (match c with | .one s => decide (s ≤ 63) | _ => false) = false) := by
        unfold readK sealed
        cases v.rows[value]? with
        | none => intro _; exact .inl rfl
        | some row =>
          cases row with
          | box k' n h c =>
            cases h with
            | route =>
              intro q
              by_cases hz : k' = key ∧ sz c = 1
              · right
                refine ⟨n, c, by simp [hz], ?_⟩
                cases c with
                | one s => simp only [hz.1, true_and] at q; split at q <;> simp_all
                | _ => rfl
              · left; simp [hz]
            | _ => intro _; exact .inl rfl
          | _ => intro _; exact .inl rfl
      cases hr : readK v key value with
      | none =>
        rw [hr] at h2
        rcases keep hr with s | ⟨n', c, s, hc⟩
        · rw [s] at u
          simp -implicitDefEqProofs -dsimp [u]
          exact ⟨ks, rfl, h2⟩
        · rw [s] at u
          have n1 := n c
          rw [hc] at n1
          simp -implicitDefEqProofs -dsimp [u, n1]
          exact ⟨ks, rfl, h2⟩
      | some s =>
        have h2 : readV v r.keys value = some s := by rw [hr] at h2; exact h2
        have : ∃ n' : Nat, sealed v key value = .tup [.int n', (Ct.one s).mv] ∧ s ≤ 63 := by
          unfold readK at hr
          unfold sealed
          split at hr
          · rename_i k' n' s' hrow
            split at hr
            · rename_i hc
              cases hr
              exact ⟨n', by simp [hrow, hc, sz], hc.2⟩
            · cases hr
          · cases hr
        obtain ⟨n', e, hs⟩ := this
        rw [e] at u
        have n1 := n (.one s)
        rw [show (match Ct.one s with | .one s => decide (s ≤ 63) | _ => false) = true by simp [hs]] at n1
        simp only [Ct.mv] at n1 u
        simp -implicitDefEqProofs -dsimp [u, n1, h2, optN, Ct.mv]
  · rintro e ⟨ks, y3, y4, h1, rfl, h2⟩
    have : ks = [] := by simpa using h1.symm
    subst this
    rw [readV_nil] at h2
    simp -implicitDefEqProofs -dsimp [h2, optN]
  · rintro w e ⟨y3, y4, rfl, rfl⟩
    simp -implicitDefEqProofs -dsimp
end K56
namespace K56
open PySem MP
variable {hand : Hand} (hh : HandOk hand)
theorem hd : g.fns.lookup ("_law_draw" : Str) = some fnDraw := rfl
theorem six {d : Nat} (h : (d : Int) < 6) : d = 0 ∨ d = 1 ∨ d = 2 ∨ d = 3 ∨ d = 4 ∨ d = 5 := by omega
include hh
theorem hdr : ∀ k args, hand k "_law_draw" args = none := fun k args => hh k _ args (by decide)
theorem target_go {k : Nat} {t : Tp} {v : Vault} {Q : PV × List (List MV) → Prop} (h1 : 1 ≤ v.rows.length) (h2 : v.rows.length ≤ 1000) (K : ∀ (n : Nat) (t' : Tp), Q (.d (.int n), [tp t'])) : Ok Q .mk (prun g hand (k + 2) "_law_target" [.own (tp t), .d v.mv]) := by
  rw [prun_d (i := fn_law_target) rfl (hh _ _ _ (by decide)) rfl rfl]; unfold fn_law_target
  simp -implicitDefEqProofs -dsimp
  refine draw_go hd (hdr hh) (by omega) (by omega) fun d1 t1 e1 => ?_
  simp -implicitDefEqProofs -dsimp
  refine draw_go hd (hdr hh) (by omega) (by omega) fun d2 t2 e2 => ?_
  simp -implicitDefEqProofs -dsimp
  refine draw_go hd (hdr hh) (by omega) (by omega) fun d3 t3 e3 => ?_
  simp -implicitDefEqProofs -dsimp
  refine draw_go hd (hdr hh) (by omega) (by omega) fun d4 t4 e4 => ?_
  have e : ∃ n : Nat, L2.atI [.int (d1 : Int), .int d2, .int d3, .int v.rows.length, .int ((v.rows.length : Int) + 1), .int 999999999] (d4 : Int) = some (MV.int n) := by
    rcases six e4 with rfl | rfl | rfl | rfl | rfl | rfl
    · exact ⟨d1, by simp⟩
    · exact ⟨d2, by simp⟩
    · exact ⟨d3, by simp⟩
    · exact ⟨v.rows.length, by simp⟩
    · exact ⟨v.rows.length + 1, by simp⟩
    · exact ⟨999999999, by simp⟩
  obtain ⟨n, e⟩ := e
  simp -implicitDefEqProofs -dsimp [e]
  exact K n t4
theorem ring_go {k : Nat} {t : Tp} {v : Vault} {Q : PV × List (List MV) → Prop} (h2 : v.sec.length ≤ 1000) (K : ∀ (r : Ring) (t' : Tp), r.keys.length ≤ v.sec.length → Q (.d r.mv, [tp t'])) : Ok Q .mk (prun g hand (k + 2) "_law_ring" [.own (tp t), .d v.mv]) := by
  rw [prun_d (i := fn_law_ring) rfl (hh _ _ _ (by decide)) rfl rfl]; unfold fn_law_ring
  have r1 := rng1_items (n := v.sec.length) (by omega) []
  simp -implicitDefEqProofs -dsimp [r1]
  rw [ps_for _ _ _ _ _ _ _ _ rfl]
  simp -implicitDefEqProofs -dsimp
  refine draw_go hd (hdr hh) (by omega) (by omega) fun m t1 e1 => ?_
  have r2 := rng1_items (n := m) (by omega) []
  simp -implicitDefEqProofs -dsimp [r2]
  refine for_all (fun its e => ∃ (t : Tp) (l o : List Nat) (y : Option PV), e = [some (.own (tp t)), some (.d v.mv), some (.own (l.map fun z => .int (z : Nat))), some (.own (o.map fun z => .int (z : Nat))), y] ∧ its.length ≤ l.length ∧ l.length + o.length = v.sec.length)
    ⟨t1, List.range v.sec.length, [], none, by simp, by simp; omega, by simp⟩ ?_ ?_
  · rintro x vs e ⟨t, l, o, y, rfl, h1, h3⟩
    have hl1 : 1 ≤ l.length := by simp at h1; omega
    simp -implicitDefEqProofs -dsimp
    refine draw_go hd (hdr hh) (by omega) (by omega) fun d t' hd => ?_
    have hd' : d < l.length := by omega
    simp -implicitDefEqProofs -dsimp
    rw [methP_pop (z := .non) _ (l.map fun z => MV.int (z : Nat)) (by simp) (by omega) (by simpa using hd) (by simp; omega)]
    simp -implicitDefEqProofs -dsimp [-List.getD_eq_getElem?_getD]
    rw [methP_app _ _ (o.map fun z => MV.int (z : Nat)) (by simp) (by simp; show _ < 16777216; omega)]
    simp -implicitDefEqProofs -dsimp [-List.getD_eq_getElem?_getD]
    refine ⟨t', l.eraseIdx d, o ++ [l.getD d 0], ⟨rfl, ?_, ?_⟩, ?_, ?_⟩
    · exact (map_erase _ _ _).symm
    · rw [List.map_append]; congr 1; simp [hd']
    · rw [List.length_eraseIdx_of_lt hd']; simp at h1; omega
    · rw [List.length_eraseIdx_of_lt hd']; simp; omega
  · rintro e ⟨t, l, o, y, rfl, h1, h3⟩
    simp -implicitDefEqProofs -dsimp
    refine draw_go hd (hdr hh) (by omega) (by omega) fun d t' hd => ?_
    simp -implicitDefEqProofs -dsimp
    exact K ⟨o, mx o.length (1 + d)⟩ t' (by show o.length ≤ _; omega)
def Vault.add (v : Vault) (r : Row) : Vault := ⟨v.sec, v.rows ++ [r]⟩
def rowFor (ro : Option Ring) (s : Nat) : Row := match ro with
  | none => .drawn
  | some r => match r.keys with
    | [] => .drawn
    | key :: _ => .box key 0 .route (.one s)
def optR : Option Ring → MV
  | none => .non
  | some r => r.mv
def madeM (v : Vault) (r : Row) : MV := .tup [(v.add r).mv, .int v.rows.length]
theorem p_entry (k : Nat) (v : Vault) (h : v.rows.length ≤ 1000) (r : Row) : prun g hand (k + 1) "with_entry" [.d v.mv, .d r.mv] = some (.d (madeM v r), []) := by
  rw [prun_d (i := fn_with_entry) rfl (hh _ _ _ (by decide)) rfl rfl]; unfold fn_with_entry
  have a := add_tup [] (a := v.rows.map Row.mv) (b := [r.mv]) (by show _ ≤ 16777216; simp; omega)
  unfold Vault.mv
  simp -implicitDefEqProofs -dsimp [a, madeM, Vault.add, Vault.mv]
theorem p_make (k : Nat) (v : Vault) (h : v.rows.length ≤ 1000) (ro : Option Ring) (s : Nat) : prun g hand (k + 5) "make_identifier" [.d v.mv, .d (optR ro), .d (.int s)] = some (.d (madeM v (rowFor ro s)), []) := by
  rw [prun_d (i := fn_make_identifier) rfl (hh _ _ _ (by decide)) rfl rfl]; unfold fn_make_identifier
  have dr : prun g hand (k + 4) "draw" [.d v.mv] = some (.d (madeM v .drawn), []) := by
    rw [prun_d (i := fn_draw) rfl (hh _ _ _ (by decide)) rfl rfl]; unfold fn_draw
    have := p_entry hh (k + 2) v h .drawn
    simp only [Row.mv] at this
    simp -implicitDefEqProofs -dsimp [this]
  cases ro with
  | none => simp -implicitDefEqProofs -dsimp [optR, rowFor, dr]
  | some r =>
    obtain ⟨keys, most⟩ := r
    cases keys with
    | nil => simp -implicitDefEqProofs -dsimp [optR, rowFor, Ring.mv, nats, dr]
    | cons key ks =>
      have se : prun g hand (k + 4) "seal" [.d v.mv, .d (.int key), .d (.int 0), .d (.tup [.str "route"]), .d (.tup [.int s])] = some (.d (.tup [(v.add (.box key 0 .route (.one s))).mv, .tup [.int v.rows.length, .int 3]]), []) := by
        rw [prun_d (i := fn_seal) rfl (hh _ _ _ (by decide)) rfl rfl]; unfold fn_seal
        have e := p_entry hh (k + 2) v h (.box key 0 .route (.one s))
        have z := p_size hh k (.one s)
        simp only [Row.mv, Hd.mv, Ct.mv] at e z
        rw [show ((0 : Nat) : Int) = 0 from rfl] at e
        simp -implicitDefEqProofs -dsimp [e, z, madeM, sz]
      simp -implicitDefEqProofs -dsimp [optR, rowFor, Ring.mv, nats, se, madeM]
theorem p_made (k : Nat) (v : Vault) (h : v.rows.length ≤ 1000) (ro : Option Ring) (s : Nat) : prun g hand (k + 1) "_law_made" [.d v.mv, .d (optR ro), .d (.int s)] = some (.d (madeM v (rowFor ro s)), []) := by
  rw [prun_d (i := fn_law_made) rfl (hh _ _ _ (by decide)) rfl rfl]; unfold fn_law_made
  have a := fun r : Row => add_tup [] (a := v.rows.map Row.mv) (b := [r.mv]) (by show _ ≤ 16777216; simp; omega)
  have a0 := a .drawn
  simp only [Row.mv] at a0
  cases ro with
  | none => simp -implicitDefEqProofs -dsimp [optR, rowFor, a0, madeM, Vault.add, Vault.mv, Row.mv]
  | some r =>
    obtain ⟨keys, most⟩ := r
    cases keys with
    | nil => simp -implicitDefEqProofs -dsimp [optR, rowFor, Ring.mv, nats, a0, madeM, Vault.add, Vault.mv, Row.mv]
    | cons key ks =>
      have a1 := a (.box key 0 .route (.one s))
      simp only [Row.mv, Hd.mv, Ct.mv] at a1
      rw [show ((0 : Nat) : Int) = 0 from rfl] at a1
      simp -implicitDefEqProofs -dsimp [optR, rowFor, Ring.mv, nats, a1, madeM, Vault.add, Vault.mv, Row.mv, Hd.mv, Ct.mv]
end K56
namespace K56
open PySem MP
variable {hand : Hand} (hh : HandOk hand)
theorem so_box : PyData.strOk "box" = true := by decide +kernel
theorem so_public : PyData.strOk "public" = true := by decide +kernel
theorem so_drawn : PyData.strOk "drawn" = true := by decide +kernel
theorem so_tag : PyData.strOk "tag" = true := by decide +kernel
theorem so_sig : PyData.strOk "signature" = true := by decide +kernel
theorem so_wrap : PyData.strOk "wrapped" = true := by decide +kernel
theorem so_route : PyData.strOk "route" = true := by decide +kernel
theorem so_app : PyData.strOk "app" = true := by decide +kernel
theorem so_a : PyData.strOk "a" = true := by decide +kernel
theorem so_pair : PyData.strOk "pair" = true := by decide +kernel
theorem pl_row (r : Row) : pl 3 r.mv := by
  cases r with
  | box k n h c => cases h <;> cases c <;> simp [Row.mv, Hd.mv, Ct.mv, pl, so_box, so_route, so_app, so_a]
  | _ => simp [Row.mv, pl, so_public, so_drawn, so_tag, so_sig, so_wrap, so_route]
theorem pl_made (v : Vault) (h1 : v.sec.length ≤ 1000) (h2 : v.rows.length ≤ 1000) (r : Row) : pl 6 (madeM v r) := by
  unfold madeM Vault.mv Vault.add
  have e1 : ∀ x ∈ v.sec.map secM, pl 3 x := fun x hx => by
    obtain ⟨k, _, rfl⟩ := List.mem_map.mp hx
    simp [secM, pl, so_pair]
  simp only [pl, List.length_cons, List.length_nil, List.mem_cons, List.not_mem_nil, or_false]
  refine ⟨by omega, fun x hx => ?_⟩
  rcases hx with rfl | rfl
  · simp only [pl, List.length_cons, List.length_nil, List.mem_cons, List.not_mem_nil, or_false]
    refine ⟨by omega, fun x hx => ?_⟩
    rcases hx with rfl | rfl
    · exact ⟨by simp; omega, e1⟩
    · refine ⟨by simp; omega, fun x hx => ?_⟩
      obtain ⟨r, _, rfl⟩ := List.mem_map.mp hx
      exact pl_row r
  · simp [pl]
theorem pl_opt (n : Nat) (o : Option Nat) : pl n (optN o) := by cases o <;> simp [optN, pl]
theorem three {d : Nat} (h : (d : Int) < 3) : d = 0 ∨ d = 1 ∨ d = 2 := by omega
structure Vault.Good (v : Vault) : Prop where
  s : v.sec.length ≤ 100
  r1 : 1 ≤ v.rows.length
  r : v.rows.length ≤ 100
include hh
theorem reads_go {k : Nat} {t : Tp} {v : Vault} {r : Ring} {Q : PV × List (List MV) → Prop} (hv : v.Good) (K : ∀ (t' : Tp), Q (.d (.bl true), [tp t'])) : Ok Q .mk (prun g hand (k + 8) "_law_reads" [.own (tp t), .d v.mv, .d r.mv]) := by
  have h1 := hv.s
  have h2 := hv.r
  have h3 := hv.r1
  rw [prun_d (i := fn_law_reads) rfl (hh _ _ _ (by decide)) rfl rfl]; unfold fn_law_reads
  simp -implicitDefEqProofs -dsimp
  refine ring_go hh (by omega) fun o t1 _ => ?_
  simp -implicitDefEqProofs -dsimp
  rw [ps_for _ _ _ _ _ _ _ _ rfl]
  have r2 := rng1_items (n := 3) (by omega) []
  simp -implicitDefEqProofs -dsimp at r2
  simp -implicitDefEqProofs -dsimp [r2]
  refine for_all (fun its e => ∃ (t : Tp) (y4 y5 y6 y7 : Option PV), e = [some (.own (tp t)), some (.d v.mv), some (.d r.mv), some (.d o.mv), y4, y5, y6, y7])
    ⟨t1, none, none, none, none, rfl⟩ ?_ ?_
  · rintro x vs e ⟨t, y4, y5, y6, y7, rfl⟩
    simp -implicitDefEqProofs -dsimp
    refine target_go hh h3 (by omega) fun n1 t2 => ?_
    simp -implicitDefEqProofs -dsimp
    refine target_go hh h3 (by omega) fun n2 t3 => ?_
    simp -implicitDefEqProofs -dsimp
    rw [ps_for _ _ _ _ _ _ _ _ (useV_no _ rfl)]
    simp -implicitDefEqProofs -dsimp
    refine for_all (fun its e => ∃ (ps : List (Ring × Nat)) (y7 : Option PV), its = ps.map (fun p => MV.tup [p.1.mv, .int (p.2 : Nat)]) ∧ e = [some (.own (tp t3)), some (.d v.mv), some (.d r.mv), some (.d o.mv), some (.d x), some (.d (.int n1)), some (.d (.int n2)), y7])
      ⟨[(r, n1), (o, n1), (r, n2), (⟨[], 2⟩, n1), (r, n1)], y7, rfl, rfl⟩ ?_ ?_
    · rintro x2 vs2 e ⟨ps, y7, q, rfl⟩
      cases ps with
      | nil => simp at q
      | cons p ps =>
        simp only [List.map_cons, List.cons.injEq] at q
        obtain ⟨rfl, rfl⟩ := q
        obtain ⟨r', n⟩ := p
        have a := p_read hh (k + 2) v r' n
        have b := p_named hh (k + 5) v r' n
        have c := p_same hand hh 0 _ (pl_opt 0 (readV v r'.keys n)) (k + 6)
        simp -implicitDefEqProofs -dsimp [a, b, c]
        exact ⟨ps, rfl⟩
    · rintro e ⟨ps, y7, q, rfl⟩
      simp -implicitDefEqProofs -dsimp
      exact ⟨t3, rfl⟩
  · rintro e ⟨t, y4, y5, y6, y7, rfl⟩
    simp -implicitDefEqProofs -dsimp
    exact K t
end K56
namespace K56
open PySem MP
variable {hand : Hand} (hh : HandOk hand)
def cutG {α : Type} (xs : List α) (lo hi : Option Int) : List α := (xs.drop (HT.sIx xs.length 0 lo)).take (HT.sIx xs.length xs.length hi - HT.sIx xs.length 0 lo)
theorem cut_map {α : Type} (f : α → MV) (xs : List α) (lo hi : Option Int) : cutM (xs.map f) lo hi = (cutG xs lo hi).map f := by
  simp [cutM, cutG, List.map_drop, List.map_take]
theorem cutG_len {α : Type} (xs : List α) (lo hi : Option Int) : (cutG xs lo hi).length ≤ xs.length := by
  unfold cutG; rw [List.length_take, List.length_drop]; omega
theorem slice_nats (is : List Nat) (lo hi : Option Int) : sliceM [] (nats is) lo hi = some (nats (cutG is lo hi), []) := by
  unfold nats; rw [slice_tup, cut_map]
theorem tr_nats (h : MH) (is : List Nat) : truth h (nats is) = some (!is.isEmpty) := by
  unfold nats; rw [tr_tup]; cases is <;> rfl
theorem read_new (v : Vault) (r : Ring) (s : Nat) (hs : s ≤ 63) : readV (v.add (rowFor (some r) s)) r.keys v.rows.length = if r.keys = [] then none else some s := by
  unfold readV Vault.add rowFor
  obtain ⟨keys, most⟩ := r
  cases keys with
  | nil => simp [readC]
  | cons key ks => simp [readC, hasN, hs]
include hh
theorem makes_go {k : Nat} {t : Tp} {v : Vault} {r : Ring} {Q : PV × List (List MV) → Prop} (hv : v.Good) (hr : r.keys.length ≤ 1000) (K : ∀ (t' : Tp), Q (.d (.bl true), [tp t'])) : Ok Q .mk (prun g hand (k + 8) "_law_makes" [.own (tp t), .d v.mv, .d r.mv]) := by
  have h1 := hv.s
  have h2 := hv.r
  have h3 := hv.r1
  rw [prun_d (i := fn_law_makes) rfl (hh _ _ _ (by decide)) rfl rfl]; unfold fn_law_makes
  simp -implicitDefEqProofs -dsimp
  refine draw_go hd (hdr hh) (by omega) (by omega) fun d1 t1 e1 => ?_
  simp -implicitDefEqProofs -dsimp
  refine draw_go hd (hdr hh) (by omega) (by omega) fun d2 t2 e2 => ?_
  have e : ∃ n : Nat, L2.atI [.int 0, .int 63, .int (d1 : Int)] (d2 : Int) = some (MV.int n) ∧ n ≤ 63 := by
    rcases three e2 with rfl | rfl | rfl
    · exact ⟨0, by simp, by omega⟩
    · exact ⟨63, by simp, by omega⟩
    · exact ⟨d1, by simp, by omega⟩
  obtain ⟨s, e, hs⟩ := e
  simp -implicitDefEqProofs -dsimp [e]
  rw [ps_for _ _ _ _ _ _ _ _ (useV_no _ rfl)]
  simp -implicitDefEqProofs -dsimp
  have em : ((s : Int) + 1) % 64 = ((s + 1) % 64 : Nat) := by omega
  rw [em]
  refine for_all (fun its e => ∃ (ps : List (Option Ring × Nat)) (y : Option PV), its = ps.map (fun p => MV.tup [optR p.1, .int (p.2 : Nat)]) ∧ e = [some (.own (tp t2)), some (.d v.mv), some (.d r.mv), some (.d (.int s)), y, none, none, none, none, none, none, none])
      ⟨[(some r, s), (none, s), (some r, (s + 1) % 64), (some ⟨[], 3⟩, s), (some r, s)], none, rfl, rfl⟩ ?_ ?_
  · rintro x2 vs2 e ⟨ps, y7, q, rfl⟩
    cases ps with
    | nil => simp at q
    | cons p ps =>
      simp only [List.map_cons, List.cons.injEq] at q
      obtain ⟨rfl, rfl⟩ := q
      obtain ⟨r', n⟩ := p
      have a := p_make hh (k + 2) v (by omega) r' n
      have b := p_made hh (k + 6) v (by omega) r' n
      have c := p_same hand hh 6 _ (pl_made v (by omega) (by omega) (rowFor r' n)) k
      simp -implicitDefEqProofs -dsimp [a, b, c]
      exact ⟨ps, rfl⟩
  · rintro e ⟨ps, y7, q, rfl⟩
    have b := p_made hh (k + 6) v (by omega) (some r) s
    simp only [optR] at b
    have gl1 : (v.add (rowFor (some r) s)).sec.length ≤ 200 := by show v.sec.length ≤ 200; omega
    have gl2 : (v.add (rowFor (some r) s)).rows.length ≤ 200 := by show (v.rows ++ [_]).length ≤ 200; simp; omega
    have rn := read_new v r s hs
    have rd0 := p_read hh (k + 2) (v.add (rowFor (some r) s)) r v.rows.length
    rw [rn] at rd0
    simp -implicitDefEqProofs -dsimp [b, madeM]
    generalize v.add (rowFor (some r) s) = gv at gl1 gl2 rd0 ⊢
    have a1 := add_tup [] (a := gv.sec.map secM) (b := [secM gv.rows.length]) (by show _ ≤ 16777216; simp; omega)
    have a2 := add_tup [] (a := gv.rows.map Row.mv) (b := [Row.mv (.pub gv.sec.length), Row.mv .drawn]) (by show _ ≤ 16777216; simp; omega)
    have a3 := add_tup [] (a := [MV.int gv.sec.length]) (b := (cutG r.keys none (some 3)).map fun i => MV.int (i : Nat)) (by
      have := cutG_len r.keys none (some 3)
      show _ ≤ 16777216; simp; omega)
    have z3 := slice_nats r.keys none (some 3)
    have z1 := slice_nats r.keys (some 1) none
    simp only [secM, Row.mv] at a1 a2
    have n3 : nats (cutG r.keys none (some 3)) = .tup ((cutG r.keys none (some 3)).map fun i => MV.int (i : Nat)) := rfl
    simp -implicitDefEqProofs -dsimp [a1, a2, z3, z1, n3, a3]
    refine ring_go hh (by omega) fun r5 t5 _ => ?_
    simp -implicitDefEqProofs -dsimp
    rw [ps_for _ _ _ _ _ _ _ _ rfl]
    have r2 := rng1_items (n := 3) (by omega) []
    simp -implicitDefEqProofs -dsimp at r2
    simp -implicitDefEqProofs -dsimp [r2]
    let rings : List Ring := [r, ⟨gv.sec.length :: cutG r.keys none (some 3), 4⟩, ⟨[gv.sec.length], 1⟩, ⟨cutG r.keys (some 1) none, 4⟩, r5]
    let later : Vault := ⟨gv.sec ++ [gv.rows.length], gv.rows ++ [.pub gv.sec.length, .drawn]⟩
    have el : later.mv = .tup [.tup (gv.sec.map secM ++ [.tup [.str "pair", .int gv.rows.length]]), .tup (gv.rows.map Row.mv ++ [.tup [.str "public", .int gv.sec.length], .tup [.str "drawn"]])] := by
      simp [later, Vault.mv, secM, Row.mv]
    have er : (rings.map Ring.mv) = [r.mv, .tup [.tup (.int gv.sec.length :: (cutG r.keys none (some 3)).map fun i => MV.int (i : Nat)), .int 4], .tup [.tup [.int gv.sec.length], .int 1], .tup [nats (cutG r.keys (some 1) none), .int 4], r5.mv] := rfl
    rw [← el, ← er]
    refine for_all (fun its e => ∃ (t : Tp) (y10 y11 : Option PV), e = [some (.own (tp t)), some (.d v.mv), some (.d r.mv), some (.d (.int s)), y7, some (.d gv.mv), some (.d (.int v.rows.length)), some (.d (.int gv.sec.length)), some (.d later.mv), some (.d (.frl (rings.map Ring.mv))), y10, y11])
      ⟨t5, none, none, rfl⟩ ?_ ?_
    · rintro x vs e ⟨t, y10, y11, rfl⟩
      simp -implicitDefEqProofs -dsimp
      refine draw_go hd (hdr hh) (by simp [rings]) (by simp [rings]) fun d t' hd' => ?_
      have hdl : d < rings.length := by simp [rings] at hd' ⊢; omega
      have ea : L2.atI (rings.map Ring.mv) (d : Int) = some (rings[d].mv) := by rw [atI_nat (by simpa using hdl)]; simp
      have a := p_read hh (k + 2) later rings[d] v.rows.length
      have b := p_named hh (k + 5) later rings[d] v.rows.length
      have c := p_same hand hh 0 _ (pl_opt 0 (readV later rings[d].keys v.rows.length)) (k + 6)
      simp -implicitDefEqProofs -dsimp [ea, a, b, c]
      exact ⟨t', rfl⟩
    · rintro e ⟨t, y10, y11, rfl⟩
      obtain ⟨keys, most⟩ := r
      cases keys with
      | nil =>
        have c := p_same hand hh 0 _ (pl_opt 0 none) (k + 6)
        simp only [if_pos, optN] at rd0 c
        simp -implicitDefEqProofs -dsimp [rd0, tr_nats, c]
        exact K t
      | cons key ks =>
        have c := p_same hand hh 0 _ (pl_opt 0 (some s)) (k + 6)
        simp only [optN] at rd0 c
        rw [if_neg (by simp)] at rd0
        simp only [optN] at rd0
        simp -implicitDefEqProofs -dsimp [rd0, tr_nats, c]
        exact K t
end K56
namespace K56
open PySem MP
variable {hand : Hand} (hh : HandOk hand)
inductive Lv | hello | early | app
def Lv.mv : Lv → MV
  | .hello => .str "hello"
  | .early => .str "early"
  | .app => .str "app"
@[simp] theorem Lv_data (l : Lv) : l.mv.data = true := by cases l <;> simp [Lv.mv]
def routeV (v : Vault) (keys ss : List Nat) (l : Lv) (n : Nat) : Option Nat := match readV v keys n with
  | some s => if hasN ss s = true then some s else none
  | none => match l with
    | .app => none
    | _ => some (ss.getD (n % ss.length) 0)
def isApp : Lv → Bool
  | .app => true
  | _ => false
theorem lv_app (l : Lv) : eqM [] l.mv (.str "app") = some (isApp l) := by cases l <;> simp [Lv.mv, isApp]
theorem emod_nat (a b : Nat) : (a : Int) % (b : Int) = ((a % b : Nat) : Int) := by omega
theorem at_nats {ss : List Nat} {n : Nat} (h : n < ss.length) : atM [] (nats ss) (.int n) = some (.int (ss.getD n 0 : Nat)) := by
  unfold nats
  rw [at_tup, atI_nat (by simpa using h)]
  simp [List.getElem?_eq_getElem h]
theorem at_mod {ss : List Nat} (n : Nat) (h : 1 ≤ ss.length) : atM [] (nats ss) (.int ((n : Int) % (ss.length : Int))) = some (.int (ss.getD (n % ss.length) 0 : Nat)) := by
  rw [emod_nat]; exact at_nats (Nat.mod_lt _ (by omega))
theorem len_nats (ss : List Nat) : lenM [] [nats ss] = some (.int ss.length, []) := by simp [nats]
theorem hasN_rev (ss : List Nat) (s : Nat) : hasN ss.reverse s = hasN ss s := by simp [hasN]
theorem back_nats (ss : List Nat) : backM (nats ss, []) = some (nats ss.reverse, []) := by simp [nats]
theorem lv_draw {d : Nat} (h : (d : Int) < 3) : ∃ l : Lv, L2.atI [MV.str "hello", .str "early", .str "app"] (d : Int) = some l.mv := by
  rcases three h with rfl | rfl | rfl
  · exact ⟨.hello, by simp [Lv.mv]⟩
  · exact ⟨.early, by simp [Lv.mv]⟩
  · exact ⟨.app, by simp [Lv.mv]⟩
include hh
theorem packet_go {k : Nat} {t : Tp} {l : Lv} {aim : Nat} {Q : PV × List (List MV) → Prop} (K : ∀ (x y : MV) (t' : Tp), x.data = true → y.data = true → Q (.d (.tup [l.mv, .int aim, x, y]), [tp t'])) : Ok Q .mk (prun g hand (k + 2) "_law_packet" [.own (tp t), .d l.mv, .d (.int aim)]) := by
  rw [prun_d (i := fn_law_packet) rfl (hh _ _ _ (by decide)) rfl rfl]; unfold fn_law_packet
  cases l with
  | hello =>
    simp -implicitDefEqProofs -dsimp [Lv.mv]
    refine draw_go hd (hdr hh) (by omega) (by omega) fun d1 t1 e1 => ?_
    simp -implicitDefEqProofs -dsimp
    refine draw_go hd (hdr hh) (by omega) (by omega) fun d2 t2 e2 => ?_
    simp -implicitDefEqProofs -dsimp
    exact K _ _ t2 (by simp) (by simp)
  | early =>
    simp -implicitDefEqProofs -dsimp [Lv.mv]
    refine draw_go hd (hdr hh) (by omega) (by omega) fun d1 t1 e1 => ?_
    simp -implicitDefEqProofs -dsimp
    refine draw_go hd (hdr hh) (by omega) (by omega) fun d2 t2 e2 => ?_
    simp -implicitDefEqProofs -dsimp
    refine draw_go hd (hdr hh) (by omega) (by omega) fun d3 t3 e3 => ?_
    simp -implicitDefEqProofs -dsimp
    exact K _ _ t3 (by simp) (by simp)
  | app =>
    simp -implicitDefEqProofs -dsimp [Lv.mv]
    refine draw_go hd (hdr hh) (by omega) (by omega) fun d1 t1 e1 => ?_
    simp -implicitDefEqProofs -dsimp
    refine draw_go hd (hdr hh) (by omega) (by omega) fun d2 t2 e2 => ?_
    simp -implicitDefEqProofs -dsimp
    refine draw_go hd (hdr hh) (by omega) (by omega) fun d3 t3 e3 => ?_
    simp -implicitDefEqProofs -dsimp
    exact K _ _ t3 (by simp) (by simp)
theorem p_route (k : Nat) (v : Vault) (r : Ring) (ss : List Nat) (hn : 1 ≤ ss.length) (l : Lv) (n : Nat) (x y : MV) (rest : List MV) :
    prun g hand (k + 6) "route_datagram" [.d v.mv, .d r.mv, .d (nats ss), .d (.tup (.tup [l.mv, .int n, x, y] :: rest))] = some (.d (optN (routeV v r.keys ss l n)), []) := by
  rw [prun_d (i := fn_route_datagram) rfl (hh _ _ _ (by decide)) rfl rfl]; unfold fn_route_datagram
  have a := p_read hh k v r n
  have hm : n % ss.length < ss.length := Nat.mod_lt _ (by omega)
  have hp : 0 < ss.length := by omega
  unfold routeV
  cases hr : readV v r.keys n with
  | some s =>
    rw [hr] at a
    simp only [optN] at a
    cases hs : hasN ss s <;> simp -implicitDefEqProofs -dsimp [a, in_nats, hs, optN]
  | none =>
    rw [hr] at a
    simp only [optN] at a
    cases l with
    | app => simp -implicitDefEqProofs -dsimp [a, Lv.mv, optN]
    | hello => simp -implicitDefEqProofs -dsimp [a, Lv.mv, len_nats, hp, at_mod n hn, optN, -List.getD_eq_getElem?_getD]
    | early => simp -implicitDefEqProofs -dsimp [a, Lv.mv, len_nats, hp, at_mod n hn, optN, -List.getD_eq_getElem?_getD]
def metOf : Row → Bool
  | .box _ _ .route c => match c with
    | .one _ => true
    | .a => true
    | .nest _ => true
    | _ => false
  | _ => false
def firstOf : Row → MV
  | .box _ _ _ (.one s) => .int s
  | .box _ _ _ .a => .str "a"
  | .box _ _ _ (.nest s) => .tup [.int s]
  | _ => .non
omit hh in
theorem in_own (is : List Nat) (i : Nat) : inM [] (.int i) (.frl (is.map fun z => .int (z : Nat))) = some (hasN is i) := by
  unfold inM
  have : (is.map fun i => MV.int (i : Nat)).all flatM = true := by simp [flatM]
  simp only [seq_frl, Option.bind_some]
  rw [if_pos ⟨rfl, this⟩]
  congr 1
  clear this
  induction is with
  | nil => rfl
  | cons a is ih =>
    simp only [List.map_cons, List.any_cons, hasN] at ih ⊢
    rw [ih]
    congr 1
    simp only [eqF]
    rw [Bool.eq_iff_iff]
    simp
    omega
theorem routes_go {k : Nat} {t : Tp} {v : Vault} {r : Ring} {Q : PV × List (List MV) → Prop} (hv : v.Good) (K : ∀ (t' : Tp), Q (.d (.bl true), [tp t'])) : Ok Q .mk (prun g hand (k + 8) "_law_routes" [.own (tp t), .d v.mv, .d r.mv]) := by
  have h1 := hv.s
  have h2 := hv.r
  have h3 := hv.r1
  rw [prun_d (i := fn_law_routes) rfl (hh _ _ _ (by decide)) rfl rfl]; unfold fn_law_routes
  have r64 := rng1_items (n := 64) (by omega) []
  have r3 := rng1_items (n := 3) (by omega) []
  simp -implicitDefEqProofs -dsimp at r64 r3
  simp -implicitDefEqProofs -dsimp [r64]
  rw [ps_for _ _ _ _ _ _ _ _ rfl]
  simp -implicitDefEqProofs -dsimp
  refine draw_go hd (hdr hh) (by omega) (by omega) fun m t1 e1 => ?_
  have r2 := rng1_items (n := 1 + m) (by omega) []
  rw [show (((1 + m : Nat)) : Int) = 1 + (m : Int) from by omega] at r2
  simp -implicitDefEqProofs -dsimp [r2]
  refine for_inv (fun its e => ∃ (t : Tp) (l o : List Nat) (y : Option PV), e = [some (.own (tp t)), some (.d v.mv), some (.d r.mv), some (.own (l.map fun z => .int (z : Nat))), some (.own (o.map fun z => .int (z : Nat))), y, none, none, none, none, none, none, none, none, none, none, none, none] ∧ its.length ≤ 8 ∧ its.length + o.length = 1 + m ∧ l.length + o.length = 64)
    ⟨t1, List.range 64, [], none, by simp, by simp; omega, by simp, by simp⟩ ?_ ?_
  · rintro x vs e ⟨t, l, o, y, rfl, g1, g2, g3⟩
    simp only [List.length_cons] at g1 g2
    have hl1 : 1 ≤ l.length := by omega
    simp -implicitDefEqProofs -dsimp
    refine draw_go hd (hdr hh) (by omega) (by omega) fun d1 t2 e2 => ?_
    simp -implicitDefEqProofs -dsimp
    refine draw_go hd (hdr hh) (by omega) (by omega) fun d2 t3 e3 => ?_
    have e : ∃ n : Nat, L2.atI [.int (d1 : Int), .int 0, .int ((l.length : Int) - 1)] (d2 : Int) = some (MV.int n) ∧ n < l.length := by
      rcases three e3 with rfl | rfl | rfl
      · exact ⟨d1, by simp, by omega⟩
      · exact ⟨0, by simp, by omega⟩
      · exact ⟨l.length - 1, by simp; omega, by omega⟩
    obtain ⟨d, e, hd'⟩ := e
    simp -implicitDefEqProofs -dsimp [e]
    rw [methP_pop (z := .non) _ (l.map fun z => MV.int (z : Nat)) (by simp) (by omega) (by simpa using hd') (by simp; omega)]
    simp -implicitDefEqProofs -dsimp [-List.getD_eq_getElem?_getD]
    rw [methP_app _ _ (o.map fun z => MV.int (z : Nat)) (by simp) (by simp; show _ < 16777216; omega)]
    simp -implicitDefEqProofs -dsimp [-List.getD_eq_getElem?_getD]
    refine ⟨t3, l.eraseIdx d, o ++ [l.getD d 0], some (.d x), ?_, ?_, ?_, ?_⟩
    · simp [map_erase, hd']
    · omega
    · simp; omega
    · rw [List.length_eraseIdx_of_lt hd']; simp; omega
  · rintro e ⟨t, l, o, y, rfl, g1, g2, g3⟩
    have ho : 1 ≤ o.length ∧ o.length ≤ 8 := by simp at g2; omega
    clear g1 g2 g3
    simp -implicitDefEqProofs -dsimp
    refine comp_go Row.mv metOf firstOf v.rows rfl (fun a ha => ?_) (fun a ha hp => ?_) fun env' he => ?_
    · cases a with
      | box k n h c => cases h <;> cases c <;> simp -implicitDefEqProofs -dsimp [Row.mv, hd_eq, Ct.mv, metOf]
      | _ => simp -implicitDefEqProofs -dsimp [Row.mv, metOf]
    · cases a with
      | box k n h c => cases h <;> cases c <;> first | (simp [metOf] at hp; done) | simp -implicitDefEqProofs -dsimp [Row.mv, Hd.mv, Ct.mv, firstOf]
      | _ => simp [metOf] at hp
    · simp -implicitDefEqProofs -dsimp [he, restP_1]
      rw [ps_for _ _ _ _ _ _ _ _ (useV_no _ rfl)]
      simp -implicitDefEqProofs -dsimp
      generalize hmet : MV.frl (List.map firstOf (List.filter metOf v.rows)) = mt
      refine for_inv (fun its e => ∃ (t : Tp) (o : List Nat) (y8 : Option PV), (∀ x ∈ its, x.data = true ∧ ((∃ s : Nat, x = .int s) ∨ (match x with | .int _ => true | _ => false) = false)) ∧ e = [some (.own (tp t)), some (.d v.mv), some (.d r.mv), some (.own (l.map fun z => .int (z : Nat))), some (.own (o.map fun z => .int (z : Nat))), y, some (.d mt), none, y8, none, none, none, none, none, none, none, none, none] ∧ 1 ≤ o.length ∧ o.length ≤ 8)
        ⟨t, o, none, ?_, rfl, ho⟩ ?_ ?_
      · intro x hx
        obtain ⟨row, hrow, rfl⟩ := List.mem_map.mp hx
        have hm := (List.mem_filter.mp hrow).2
        cases row with
        | box k n h c => cases h <;> cases c <;> first | (simp [metOf] at hm; done) | exact ⟨by simp [firstOf], .inl ⟨_, rfl⟩⟩ | exact ⟨by simp [firstOf], .inr rfl⟩
        | _ => simp [metOf] at hm
      · rintro x vs e ⟨t, o, y8, hx, rfl, g1, g2⟩
        obtain ⟨hdx, hx0⟩ := hx x List.mem_cons_self
        have hx' := fun x h => hx x (List.mem_cons_of_mem _ h)
        rcases hx0 with ⟨s, rfl⟩ | hx0
        · have w := p_whole hh (k + 6) (.int s) true rfl (by simp)
          by_cases hs : s < 64
          · have hs' : (s : Int) < 64 := by omega
            cases hm : hasN o s with
            | true =>
              simp -implicitDefEqProofs -dsimp [w, hs', in_own, hm]
              exact ⟨t, o, _, hx', rfl, g1, g2⟩
            | false =>
              by_cases hl : o.length < 8
              · have hl' : (o.length : Int) < 8 := by omega
                simp -implicitDefEqProofs -dsimp [w, hs', in_own, hm, hl, hl']
                refine draw_go hd (hdr hh) (by omega) (by omega) fun d t' e' => ?_
                by_cases h0 : d = 0
                · subst h0
                  simp -implicitDefEqProofs -dsimp
                  rw [methP_app _ _ (o.map fun z => MV.int (z : Nat)) (by simp) (by simp; show _ < 16777216; omega)]
                  simp -implicitDefEqProofs -dsimp
                  exact ⟨t', o ++ [s], _, hx', by rw [List.map_append]; rfl, by simp, by simp; omega⟩
                · simp -implicitDefEqProofs -dsimp [h0]
                  exact ⟨t', o, _, hx', rfl, g1, g2⟩
              · have hl' : ¬ (o.length : Int) < 8 := by omega
                simp -implicitDefEqProofs -dsimp [w, hs', in_own, hm, hl, hl']
                exact ⟨t, o, _, hx', rfl, g1, g2⟩
          · have hs' : ¬ (s : Int) < 64 := by omega
            simp -implicitDefEqProofs -dsimp [w, hs']
            exact ⟨t, o, _, hx', rfl, g1, g2⟩
        · have w := p_whole hh (k + 6) x false hx0 hdx
          simp -implicitDefEqProofs -dsimp [w]
          exact ⟨t, o, _, hx', rfl, g1, g2⟩
      · rintro e ⟨t, o, y8, hx, rfl, g1, g2⟩
        clear hx hmet
        simp -implicitDefEqProofs -dsimp
        have eo : MV.tup (List.map (fun z => MV.int ((z : Nat) : Int)) o) = nats o := rfl
        rw [eo, ps_for _ _ _ _ _ _ _ _ rfl]
        simp -implicitDefEqProofs -dsimp [r3]
        refine for_inv (fun its e => ∃ (t : Tp) (y5 y10 y11 y12 y14 y15 y16 y17 : Option PV), e = [some (.own (tp t)), some (.d v.mv), some (.d r.mv), some (.own (l.map fun z => .int (z : Nat))), some (.d (nats o)), y5, some (.d mt), none, y8, some (.d (.frl [.str "hello", .str "early", .str "app"])), y10, y11, y12, none, y14, y15, y16, y17])
          ⟨t, y, none, none, none, none, none, none, none, rfl⟩ ?_ ?_
        · rintro x vs e ⟨t, y5, y10, y11, y12, y14, y15, y16, y17, rfl⟩
          simp -implicitDefEqProofs -dsimp
          refine target_go hh h3 (by omega) fun n t1 => ?_
          simp -implicitDefEqProofs -dsimp
          refine draw_go hd (hdr hh) (by omega) (by omega) fun d1 t2 e1 => ?_
          obtain ⟨l1, el1⟩ := lv_draw e1
          simp -implicitDefEqProofs -dsimp [el1]
          refine draw_go hd (hdr hh) (by omega) (by omega) fun d2 t3 e2 => ?_
          have r5 := rng1_items (n := d2) (by omega) []
          simp -implicitDefEqProofs -dsimp [r5]
          refine comp_dr (fun x => x.data = true) (fun x _ t => ?_) fun vs t4 env' _ hvs he => ?_
          · simp -implicitDefEqProofs -dsimp
            refine draw_go hd (hdr hh) (by omega) (by omega) fun d2 t3 e2 => ?_
            obtain ⟨l2, el2⟩ := lv_draw e2
            simp -implicitDefEqProofs -dsimp [el2]
            refine target_go hh h3 (by omega) fun n t1 => ?_
            simp -implicitDefEqProofs -dsimp
            refine packet_go hh fun x y t' hx hy => ?_
            simp -implicitDefEqProofs -dsimp
            exact ⟨by simp [hx, hy], t', rfl⟩
          · have nm := p_named hh (k + 5) v r n
            simp -implicitDefEqProofs -dsimp [he, restP_1, nm]
            rw [ps_for _ _ _ _ _ _ _ _ (useV_no _ rfl)]
            simp -implicitDefEqProofs -dsimp
            refine draw_go hd (hdr hh) (by omega) (by omega) fun d3 t5 e3 => ?_
            obtain ⟨l3, el3⟩ := lv_draw e3
            simp -implicitDefEqProofs -dsimp [el3, back_nats]
            refine for_inv (fun its e => ∃ (t : Tp) (ps : List (Lv × List Nat)) (y15 y16 y17 : Option PV), its = ps.map (fun p => MV.tup [p.1.mv, nats p.2, r.mv]) ∧ (∀ p ∈ ps, p.2 = o ∨ p.2 = o.reverse) ∧
                e = [some (.own (tp t)), some (.d v.mv), some (.d r.mv), some (.own (l.map fun z => .int (z : Nat))), some (.d (nats o)), some (.d x), some (.d mt), none, y8, some (.d (.frl [.str "hello", .str "early", .str "app"])), some (.d (.int n)), some (.d l1.mv), some (.d (.tup vs)), none, some (.d (optN (readV v r.keys n))), y15, y16, y17])
              ⟨t5, [(l1, o), (l3, o), (l1, o.reverse), (l1, o)], y15, y16, y17, rfl, by simp, rfl⟩ ?_ ?_
            · rintro x2 vs2 e ⟨t, ps, y15, y16, y17, q, hps, rfl⟩
              cases ps with
              | nil => simp at q
              | cons p ps =>
                simp only [List.map_cons, List.cons.injEq] at q
                obtain ⟨rfl, rfl⟩ := q
                obtain ⟨lv, ss⟩ := p
                have hss := hps (lv, ss) List.mem_cons_self
                have hps' := fun p h => hps p (List.mem_cons_of_mem _ h)
                simp only at hss
                have len : ss.length = o.length := by rcases hss with rfl | rfl <;> simp
                have has : ∀ s, hasN o s = hasN ss s := fun s => by rcases hss with rfl | rfl <;> simp [hasN_rev]
                have hp : 0 < o.length := by omega
                have am := at_mod n (ss := ss) (by omega)
                rw [len] at am
                have ad := fun (a : MV) (b : List MV) (h : b.length ≤ 1000) => add_tup [] (a := [a]) (b := b) (by show _ ≤ 16777216; simp; omega)
                have vl : vs.length ≤ 1000 := by simp at *; omega
                have c := p_same hand hh 0 _ (pl_opt 0 (routeV v r.keys ss lv n)) (k + 6)
                have b := fun xa ya => p_route hh (k + 1) v r ss (by omega) lv n xa ya vs
                cases hr : readV v r.keys n with
                | some s =>
                  have ho := has s
                  cases hs : hasN ss s with
                  | true =>
                    have e1 : routeV v r.keys ss lv n = some s := by unfold routeV; rw [hr]; simp [hs]
                    rw [e1] at b c
                    rw [hs] at ho
                    cases ha : isApp lv <;>
                    · simp -implicitDefEqProofs -dsimp [lv_app, ha, len_nats, hp, am, optN, in_nats, ho, -List.getD_eq_getElem?_getD]
                      refine packet_go hh fun xa ya t' hx hy => ?_
                      simp -implicitDefEqProofs -dsimp [ad _ _ vl, b, c, optN]
                      simp only [optN] at c
                      simp -implicitDefEqProofs -dsimp [c]
                      exact ⟨t', ps, _, _, _, rfl, hps', rfl⟩
                  | false =>
                    have e1 : routeV v r.keys ss lv n = none := by unfold routeV; rw [hr]; simp [hs]
                    rw [e1] at b c
                    rw [hs] at ho
                    cases ha : isApp lv <;>
                    · simp -implicitDefEqProofs -dsimp [lv_app, ha, len_nats, hp, am, optN, in_nats, ho, -List.getD_eq_getElem?_getD]
                      refine packet_go hh fun xa ya t' hx hy => ?_
                      simp -implicitDefEqProofs -dsimp [ad _ _ vl, b, c, optN]
                      simp only [optN] at c
                      simp -implicitDefEqProofs -dsimp [c]
                      exact ⟨t', ps, _, _, _, rfl, hps', rfl⟩
                | none =>
                  cases ha : isApp lv with
                  | true =>
                    have e1 : routeV v r.keys ss lv n = none := by unfold routeV; rw [hr]; cases lv <;> first | rfl | cases ha
                    rw [e1] at b c
                    simp -implicitDefEqProofs -dsimp [lv_app, ha, len_nats, hp, am, optN, -List.getD_eq_getElem?_getD]
                    refine packet_go hh fun xa ya t' hx hy => ?_
                    simp only [optN] at b c
                    simp -implicitDefEqProofs -dsimp [ad _ _ vl, b, c]
                    exact ⟨t', ps, _, _, _, rfl, hps', rfl⟩
                  | false =>
                    have e1 : routeV v r.keys ss lv n = some (ss.getD (n % ss.length) 0) := by unfold routeV; rw [hr]; cases lv <;> first | rfl | cases ha
                    rw [e1] at b c
                    rw [len] at b c
                    simp -implicitDefEqProofs -dsimp [lv_app, ha, len_nats, hp, am, optN, -List.getD_eq_getElem?_getD]
                    refine packet_go hh fun xa ya t' hx hy => ?_
                    simp only [optN] at b c
                    simp -implicitDefEqProofs -dsimp [ad _ _ vl, b, c, -List.getD_eq_getElem?_getD]
                    exact ⟨t', ps, _, _, _, rfl, hps', rfl⟩
            · rintro e ⟨t, ps, y15, y16, y17, q, hps, rfl⟩
              simp -implicitDefEqProofs -dsimp
              exact ⟨t, _, _, _, _, _, _, _, _, rfl⟩
        · rintro e ⟨t, y5, y10, y11, y12, y14, y15, y16, y17, rfl⟩
          simp -implicitDefEqProofs -dsimp
          exact K t
end K56
namespace K56
open PySem MP
abbrev Pr := Nat × Nat
def prM (p : Pr) : MV := .tup [.int p.1, .int p.2]
def prs (ps : List Pr) : MV := .tup (ps.map prM)
structure Ids where
  own : List Pr
  next : Nat
  theirs : List Pr
  retired : List Pr
  first : Option Nat
def Ids.mv (i : Ids) : MV := .tup [prs i.own, .int i.next, prs i.theirs, prs i.retired, optN i.first]
def Ids.met (i : Ids) : List Pr := i.theirs ++ i.retired
structure Ids.Good (i : Ids) (n : Nat) : Prop where
  four : i.theirs.length ≤ 4
  fst : (i.met.map (·.1)).Nodup
  snd : (i.met.map (·.2)).Nodup
  len : i.met.length ≤ n
  olen : i.own.length ≤ n
  next : 1 ≤ i.next
def optI : Option Ids → MV
  | none => .non
  | some i => i.mv
def hasP (ps : List Pr) (p : Pr) : Bool := ps.any (· == p)
def hasF (ps : List Pr) (s : Nat) : Bool := ps.any (·.1 == s)
def hasS (ps : List Pr) (v : Nat) : Bool := ps.any (·.2 == v)
def takeI (i : Ids) (s v : Nat) : Option Ids :=
  if hasP i.met (s, v) = true then some i
  else if hasF i.met s = true ∨ hasS i.met v = true ∨ i.first = some v ∨ i.theirs.length = 4 then none
  else some { i with theirs := i.theirs ++ [(s, v)] }
def retireI (i : Ids) (n : Nat) : Option Ids := if i.next ≤ n then none else some { i with own := i.own.filter fun p => p.1 != n }
def theirsI (i : Ids) (s : Nat) : Ids := { i with theirs := i.theirs.filter (fun p => p.1 != s), retired := i.retired ++ i.theirs.filter fun p => p.1 == s }
def issueI (i : Ids) (v : Nat) : Ids := { i with own := i.own ++ [(i.next, v)], next := i.next + 1 }
@[simp] theorem prs_data (ps) : (prs ps).data = true := by
  unfold prs; rw [data_tup, dataAll_iff]; intro x hx; obtain ⟨p, _, rfl⟩ := List.mem_map.mp hx; simp [prM]
@[simp] theorem optN_data (o : Option Nat) : (optN o).data = true := by cases o <;> simp [optN]
@[simp] theorem Ids_data (i : Ids) : i.mv.data = true := by simp [Ids.mv]
@[simp] theorem I0 (i : Ids) : atM [] i.mv (.int 0) = some (prs i.own) := rfl
@[simp] theorem I1 (i : Ids) : atM [] i.mv (.int 1) = some (.int i.next) := rfl
@[simp] theorem I2 (i : Ids) : atM [] i.mv (.int 2) = some (prs i.theirs) := rfl
@[simp] theorem I3 (i : Ids) : atM [] i.mv (.int 3) = some (prs i.retired) := rfl
@[simp] theorem I4 (i : Ids) : atM [] i.mv (.int 4) = some (optN i.first) := rfl
@[simp] theorem pr0 (p : Pr) : atM [] (prM p) (.int 0) = some (.int p.1) := rfl
@[simp] theorem pr1 (p : Pr) : atM [] (prM p) (.int 1) = some (.int p.2) := rfl
@[simp] theorem prM_data (p : Pr) : (prM p).data = true := by simp [prM]
theorem add_prs (a b : List Pr) (h : a.length + b.length ≤ 1000) : binM .add [] (prs a) (prs b) = some (prs (a ++ b), []) := by
  unfold prs
  rw [add_tup [] (by show _ ≤ 16777216; simp; omega)]
  simp
theorem add_pr1 (a : List Pr) (s v : Nat) (h : a.length ≤ 900) : binM .add [] (prs a) (.tup [.tup [.int s, .int v]]) = some (prs (a ++ [(s, v)]), []) := add_prs a [(s, v)] (by simp; omega)
theorem add_lit (a b : List MV) (h : a.length + b.length ≤ 100) : binM .add [] (.tup a) (.tup b) = some (.tup (a ++ b), []) := add_tup [] (by show _ ≤ 16777216; omega)
@[simp] theorem seq_prs (a : List Pr) : seqM [] (prs a) = some (a.map prM) := rfl
@[simp] theorem len_prs (a : List Pr) : lenM [] [prs a] = some (.int a.length, []) := by simp [prs]
theorem toDs_prs (ps : List Pr) : toDs (ps.map prM) = some (ps.map fun p => PyData.tuple [.int p.1, .int p.2]) := by
  induction ps with
  | nil => rfl
  | cons p ps ih => simp [toDs, prM, toD, ih]
theorem shaped_prs (ps : List Pr) : SeqAt.shaped (.tuple (ps.map fun p => PyData.tuple [.int p.1, .int p.2])) = true := by
  unfold SeqAt.shaped
  have h1 : ∀ ps : List Pr, PyData.canLayAll0 (ps.map fun p => PyData.tuple [.int p.1, .int p.2]) = true := by
    intro ps
    induction ps with
    | nil => simp [PyData.canLayAll0]
    | cons p ps ih => simp [PyData.canLayAll0, PyData.canLay0, ih]
  have h2 : ∀ ps : List Pr, PyData.depthAll (ps.map fun p => PyData.tuple [.int p.1, .int p.2]) ≤ 1 := by
    intro ps
    induction ps with
    | nil => simp [PyData.depthAll]
    | cons p ps ih => simp [PyData.depthAll, PyData.depth]; omega
  have := h2 ps
  simp [PyData.canLay0, h1, PyData.depth]
  omega
theorem in_prs (ps : List Pr) (s v : Nat) : inM [] (.tup [.int s, .int v]) (prs ps) = some (hasP ps (s, v)) := by
  unfold inM prs
  simp only [seq_tup, Option.bind_some]
  have nf : ¬ (flatM (.tup [.int (s : Int), .int (v : Int)]) = true ∧ (ps.map prM).all flatM = true) := by simp [flatM]
  rw [if_neg nf]
  simp only [inD, toDs_prs, Option.bind_some]
  have t : toD (.tup [.int (s : Int), .int (v : Int)]) = some (.tuple [.int s, .int v]) := by simp [toD, toDs]
  rw [t]
  simp only [Option.bind_some]
  have sh : SeqAt.shaped (.tuple [.int (s : Int), .int (v : Int)]) = true := by simp [SeqAt.shaped, PyData.canLay0, PyData.canLayAll0, PyData.depth, PyData.depthAll]
  rw [if_pos ⟨sh, shaped_prs ps⟩]
  congr 1
  unfold hasP
  clear nf
  induction ps with
  | nil => rfl
  | cons p ps ih =>
    simp only [List.map_cons, List.any_cons, ih]
    congr 1
    rw [Bool.eq_iff_iff]
    obtain ⟨a, b⟩ := p
    simp [PyData.eqv, PyData.eqvAll]
    omega
theorem eq_optN (v : Nat) (o : Option Nat) : eqM [] (.int v) (optN o) = some (decide (o = some v)) := by
  cases o with
  | none => simp [optN, eqM, toDH, toD, SeqAt.shaped, PyData.canLay0, PyData.depth, PyData.eqv]
  | some w =>
    simp only [optN, eqM_int, Option.some.injEq]
    exact decide_eq_decide.mpr ⟨fun h => by omega, fun h => by omega⟩
theorem in_fst (ps : List Pr) (s : Nat) : inM [] (.int s) (.frl (ps.map fun p => .int (p.1 : Nat))) = some (hasF ps s) := by
  have := in_own (ps.map (·.1)) s
  rw [List.map_map] at this
  rw [show (fun p : Pr => MV.int (p.1 : Nat)) = (fun z : Nat => MV.int (z : Nat)) ∘ (·.1) from rfl, this]
  simp [hasN, hasF, Function.comp_def]
theorem in_snd (ps : List Pr) (s : Nat) : inM [] (.int s) (.frl (ps.map fun p => .int (p.2 : Nat))) = some (hasS ps s) := by
  have := in_own (ps.map (·.2)) s
  rw [List.map_map] at this
  rw [show (fun p : Pr => MV.int (p.2 : Nat)) = (fun z : Nat => MV.int (z : Nat)) ∘ (·.2) from rfl, this]
  simp [hasN, hasS, Function.comp_def]
theorem hasP_F {ps : List Pr} {s v : Nat} (h : hasP ps (s, v) = true) : hasF ps s = true := by
  unfold hasP hasF at *
  rw [List.any_eq_true] at h ⊢
  obtain ⟨x, hx, e⟩ := h
  have := eq_of_beq e
  subst this
  exact ⟨_, hx, by simp⟩
theorem g_MT : (g.cns.lookup ("MOST_THEIRS" : Str)) = some (.int 4) := rfl
@[simp] theorem x_MT (cp : Str → List PV → Option (PV × List (List MV))) (env : PEnv) : pX g cp (.glob "MOST_THEIRS") env = some (.d (.int 4), env) := px_glob g cp env g_MT (by simp)
variable {hand : Hand} (hh : HandOk hand)
include hh
theorem p_take (k : Nat) (i : Ids) (n : Nat) (hi : i.Good n) (hn : n ≤ 500) (s v : Nat) : prun g hand (k + 1) "take_identifier" [.d i.mv, .d (.int s), .d (.int v)] = some (.d (optI (takeI i s v)), []) := by
  rw [prun_d (i := fn_take_identifier) rfl (hh _ _ _ (by decide)) rfl rfl]; unfold fn_take_identifier
  have hl : i.theirs.length + i.retired.length ≤ n := by have := hi.len; simpa [Ids.met] using this
  have a := add_prs i.theirs i.retired (by omega)
  apply eq_of_ok
  unfold Ids.mv
  simp -implicitDefEqProofs -dsimp [a]
  refine comp_map prM (fun p => .int (p.1 : Nat)) i.met (by simp [Ids.met]) (fun p hp => by simp -implicitDefEqProofs -dsimp) fun env' he => ?_
  simp -implicitDefEqProofs -dsimp [he, restP_1, in_fst]
  have e1 : i.theirs ++ i.retired = i.met := rfl
  have f4 := hi.four
  cases hF : hasF i.met s with
  | true =>
    cases hP : hasP i.met (s, v) with
    | true =>
      simp -implicitDefEqProofs -dsimp [in_prs, hP, takeI, optI, Ids.mv, e1]
    | false =>
      simp -implicitDefEqProofs -dsimp [in_prs, hP, takeI, optI, e1, hF]
  | false =>
    have hP : hasP i.met (s, v) = false := by
      cases h : hasP i.met (s, v) with
      | false => rfl
      | true => rw [hasP_F h] at hF; cases hF
    by_cases hfi : i.first = some v
    · simp -implicitDefEqProofs -dsimp [eq_optN, hfi, takeI, hP, hF, optI]
    · simp -implicitDefEqProofs -dsimp [eq_optN, hfi]
      refine comp_map prM (fun p => .int (p.2 : Nat)) i.met (by simp [Ids.met]) (fun p hp => by simp -implicitDefEqProofs -dsimp) fun env' he => ?_
      cases hS : hasS i.met v with
      | true => simp -implicitDefEqProofs -dsimp [he, restP_1, in_snd, hS, takeI, hP, hF, optI]
      | false =>
        by_cases h4 : i.theirs.length = 4
        · simp -implicitDefEqProofs -dsimp [he, restP_1, in_snd, hS, takeI, hP, hF, optI, h4]
        · have h4' : ¬ (4 : Int) ≤ i.theirs.length := by omega
          have a2 := add_prs i.theirs [(s, v)] (by simp; omega)
          simp only [prs, List.map_cons, List.map_nil, prM] at a2
          simp -implicitDefEqProofs -dsimp [he, restP_1, in_snd, hS, takeI, hP, hF, optI, h4, h4', hfi, Ids.mv, prs, prM, a2]
theorem p_taken (k : Nat) (i : Ids) (n : Nat) (hi : i.Good n) (hn : n ≤ 500) (s v : Nat) : prun g hand (k + 1) "_law_identifier_taken" [.d i.mv, .d (.int s), .d (.int v)] = some (.d (optI (takeI i s v)), []) := by
  rw [prun_d (i := fn_law_identifier_taken) rfl (hh _ _ _ (by decide)) rfl rfl]; unfold fn_law_identifier_taken
  have hl : i.theirs.length + i.retired.length ≤ n := by have := hi.len; simpa [Ids.met] using this
  have a := add_prs i.theirs i.retired (by omega)
  have e1 : i.theirs ++ i.retired = i.met := rfl
  have f4 := hi.four
  apply eq_of_ok
  cases hP : hasP i.met (s, v) with
  | true => simp -implicitDefEqProofs -dsimp [a, in_prs, e1, hP, takeI, optI]
  | false =>
    simp -implicitDefEqProofs -dsimp [a, in_prs, e1, hP]
    refine comp_go prM (fun p => p.1 == s || p.2 == v) prM i.met rfl (fun p hp => ?_) (fun p hp _ => by simp -implicitDefEqProofs -dsimp) fun env' he => ?_
    · by_cases h1 : p.1 = s
      · simp -implicitDefEqProofs -dsimp [h1]
      · have h1' : ¬ (p.1 : Int) = s := by omega
        by_cases h2 : p.2 = v
        · simp -implicitDefEqProofs -dsimp [h1, h1', h2]
        · have h2' : ¬ (p.2 : Int) = v := by omega
          simp -implicitDefEqProofs -dsimp [h1, h1', h2, h2']
    · have lf : (0 < (i.met.filter fun p => p.1 == s || p.2 == v).length) ↔ (hasF i.met s = true ∨ hasS i.met v = true) := by
        rw [List.length_pos_iff_exists_mem]
        simp only [List.mem_filter, Bool.or_eq_true, hasF, hasS, List.any_eq_true]
        constructor
        · rintro ⟨p, hp, h | h⟩
          · exact .inl ⟨p, hp, h⟩
          · exact .inr ⟨p, hp, h⟩
        · rintro (⟨p, hp, h⟩ | ⟨p, hp, h⟩)
          · exact ⟨p, hp, .inl h⟩
          · exact ⟨p, hp, .inr h⟩
      simp -implicitDefEqProofs -dsimp only [List.length_map]
      generalize (i.met.filter fun p => p.1 == s || p.2 == v) = fl at lf ⊢
      have hlen : (fl.map prM).length = fl.length := by simp
      generalize (fl.map prM) = fm at hlen ⊢
      by_cases hp : 0 < fm.length
      · have hp' : (0 : Int) < fm.length := by omega
        have t : takeI i s v = none := by
          unfold takeI
          rw [if_neg (by simp [hP]), if_pos]
          rcases lf.mp (by omega) with h | h
          · exact .inl h
          · exact .inr (.inl h)
        simp -implicitDefEqProofs -dsimp [he, restP_1, hp', hp, t, optI]
      · have hf0 : fm = [] := List.length_eq_zero_iff.mp (by omega)
        have nF : ¬ hasF i.met s = true := fun z => hp (by have := lf.mpr (.inl z); omega)
        have nS : ¬ hasS i.met v = true := fun z => hp (by have := lf.mpr (.inr z); omega)
        subst hf0
        by_cases hfi : i.first = some v
        · have t : takeI i s v = none := by
            unfold takeI
            rw [if_neg (by simp [hP]), if_pos (.inr (.inr (.inl hfi)))]
          simp -implicitDefEqProofs -dsimp [he, restP_1, eq_optN, hfi, t, optI]
        · by_cases h4 : i.theirs.length = 4
          · have h4' : (i.theirs.length : Int) = 4 := by omega
            have t : takeI i s v = none := by
              unfold takeI
              rw [if_neg (by simp [hP]), if_pos (.inr (.inr (.inr h4)))]
            simp -implicitDefEqProofs -dsimp [he, restP_1, eq_optN, hfi, h4', t, optI]
          · have h4' : ¬ (i.theirs.length : Int) = 4 := by omega
            have t : takeI i s v = some { i with theirs := i.theirs ++ [(s, v)] } := by
              unfold takeI
              rw [if_neg (by simp [hP]), if_neg]
              rintro (h | h | h | h)
              · exact nF h
              · exact nS h
              · exact hfi h
              · exact h4 h
            have a2 := add_pr1 i.theirs s v (by omega)
            have a3 := add_lit [prs i.own, .int i.next] [prs (i.theirs ++ [(s, v)])] (by simp)
            have a4 := add_lit [prs i.own, .int i.next, prs (i.theirs ++ [(s, v)])] [prs i.retired, optN i.first] (by simp)
            have c1 : cutM [prs i.own, .int i.next, prs i.theirs, prs i.retired, optN i.first] none (some 2) = [prs i.own, .int i.next] := rfl
            have c2 : cutM [prs i.own, .int i.next, prs i.theirs, prs i.retired, optN i.first] (some 3) none = [prs i.retired, optN i.first] := rfl
            have m1 : i.mv = .tup [prs i.own, .int i.next, prs i.theirs, prs i.retired, optN i.first] := rfl
            simp -implicitDefEqProofs -dsimp [he, restP_1, eq_optN, hfi, h4']
            rw [m1]
            simp -implicitDefEqProofs -dsimp [c1, c2, a2, a3, a4, t, optI, Ids.mv]
theorem p_retire (k : Nat) (i : Ids) (n : Nat) : prun g hand (k + 1) "take_retire" [.d i.mv, .d (.int n)] = some (.d (optI (retireI i n)), []) := by
  rw [prun_d (i := fn_take_retire) rfl (hh _ _ _ (by decide)) rfl rfl]; unfold fn_take_retire
  have gf : gfM 0 [some (.int (n : Int))] (prs i.own, []) = some (prs (i.own.filter fun p => p.1 != n), []) := by
    unfold gfM prs
    simp only [List.getElem?_cons_zero]
    rw [if_pos (by simp [prM, keyM])]
    congr 3
    rw [List.filter_map]
    congr 1
    apply List.filter_congr
    intro p _
    rw [Bool.eq_iff_iff]
    simp [prM, keyM]
    omega
  unfold retireI
  by_cases h : i.next ≤ n
  · have h' : (i.next : Int) ≤ n := by omega
    simp -implicitDefEqProofs -dsimp [Ids.mv, h, h', optI]
  · have h' : ¬ (i.next : Int) ≤ n := by omega
    simp -implicitDefEqProofs -dsimp [Ids.mv, h, h', optI, gfP, gf]
theorem p_retire2 (k : Nat) (i : Ids) (n : Nat) : prun g hand (k + 1) "_law_retire_taken" [.d i.mv, .d (.int n)] = some (.d (optI (retireI i n)), []) := by
  rw [prun_d (i := fn_law_retire_taken) rfl (hh _ _ _ (by decide)) rfl rfl]; unfold fn_law_retire_taken
  unfold retireI
  by_cases h : i.next ≤ n
  · have h' : (i.next : Int) ≤ n := by omega
    simp -implicitDefEqProofs -dsimp [h, h', optI]
  · have h' : ¬ (i.next : Int) ≤ n := by omega
    rw [if_neg h]
    apply eq_of_ok
    simp -implicitDefEqProofs -dsimp [h, h']
    refine comp_go prM (fun p => p.1 != n) prM i.own rfl (fun p hp => ?_) (fun p hp _ => by simp -implicitDefEqProofs -dsimp) fun env' he => ?_
    · by_cases h1 : p.1 = n
      · simp -implicitDefEqProofs -dsimp [h1]
      · have h1' : ¬ (p.1 : Int) = n := by omega
        simp -implicitDefEqProofs -dsimp [h1, h1']
    · have c1 : cutM [prs i.own, .int i.next, prs i.theirs, prs i.retired, optN i.first] (some 1) none = [.int i.next, prs i.theirs, prs i.retired, optN i.first] := rfl
      have a4 := add_lit [prs (i.own.filter fun p => p.1 != n)] [.int i.next, prs i.theirs, prs i.retired, optN i.first] (by simp)
      have m1 : i.mv = .tup [prs i.own, .int i.next, prs i.theirs, prs i.retired, optN i.first] := rfl
      have f1 : MV.tup ((i.own.filter fun p => p.1 != n).map prM) = prs (i.own.filter fun p => p.1 != n) := rfl
      simp -implicitDefEqProofs -dsimp only [he]
      rw [m1]
      simp -implicitDefEqProofs -dsimp [restP_1, f1, c1, a4, optI, Ids.mv]
theorem p_issue (k : Nat) (i : Ids) (n v : Nat) (hl : i.own.length ≤ 900) : prun g hand (k + 1) "issue_value" [.d i.mv, .d (.int v)] = some (.d (issueI i v).mv, []) := by
  rw [prun_d (i := fn_issue_value) rfl (hh _ _ _ (by decide)) rfl rfl]; unfold fn_issue_value
  simp -implicitDefEqProofs -dsimp [Ids.mv, add_pr1 _ _ _ hl, issueI]
theorem p_issue2 (k : Nat) (i : Ids) (n v : Nat) (hl : i.own.length ≤ 900) : prun g hand (k + 1) "_law_issued" [.d i.mv, .d (.int v)] = some (.d (issueI i v).mv, []) := by
  rw [prun_d (i := fn_law_issued) rfl (hh _ _ _ (by decide)) rfl rfl]; unfold fn_law_issued
  have m1 : i.mv = .tup [prs i.own, .int i.next, prs i.theirs, prs i.retired, optN i.first] := rfl
  have c1 : cutM [prs i.own, .int i.next, prs i.theirs, prs i.retired, optN i.first] (some 2) none = [prs i.theirs, prs i.retired, optN i.first] := rfl
  have a4 := add_lit [prs (i.own ++ [(i.next, v)]), .int ((i.next : Int) + 1)] [prs i.theirs, prs i.retired, optN i.first] (by simp)
  simp -implicitDefEqProofs -dsimp [add_pr1 _ _ _ hl, issueI]
  rw [m1]
  simp -implicitDefEqProofs -dsimp [c1, a4, Ids.mv]
end K56
namespace K56
open PySem MP
theorem nodup_find {ps : List Pr} (h : (ps.map (·.1)).Nodup) {s v : Nat} (hm : (s, v) ∈ ps) : ps.filter (fun p => p.1 == s) = [(s, v)] := by
  induction ps with
  | nil => simp at hm
  | cons p ps ih =>
    simp only [List.map_cons, List.nodup_cons] at h
    rcases List.mem_cons.mp hm with rfl | hm
    · have : ps.filter (fun p => p.1 == s) = [] := by
        rw [List.filter_eq_nil_iff]
        intro a ha hs
        have : a.1 = s := by simpa using hs
        exact h.1 (List.mem_map.mpr ⟨a, ha, this⟩)
      simp [this]
    · have hne : ¬ p.1 = s := fun e => h.1 (List.mem_map.mpr ⟨(s, v), hm, e.symm⟩)
      simp [hne, ih h.2 hm]
variable {hand : Hand} (hh : HandOk hand)
include hh
theorem p_value_of (k : Nat) (ps : List Pr) (s v : Nat) (h : (ps.map (·.1)).Nodup) (hm : (s, v) ∈ ps) : prun g hand (k + 1) "value_of" [.d (prs ps), .d (.int s)] = some (.d (.int v), []) := by
  rw [prun_d (i := fn_value_of) rfl (hh _ _ _ (by decide)) rfl rfl]; unfold fn_value_of
  apply eq_of_ok
  simp -implicitDefEqProofs -dsimp
  rw [ps_for _ _ _ _ _ _ _ _ (useV4 _ _ _ _ _)]
  simp -implicitDefEqProofs -dsimp
  refine for_inv2 (fun its e => ∃ (qs : List Pr) (y2 y3 : Option PV), its = qs.map prM ∧ (qs.map (·.1)).Nodup ∧ (s, v) ∈ qs ∧ e = [some (.d (prs ps)), some (.d (.int s)), y2, y3])
    (fun w e => ∃ (y2 y3 : Option PV), w = .d (.int v) ∧ e = [some (.d (prs ps)), some (.d (.int s)), y2, y3]) ⟨ps, none, none, rfl, h, hm, rfl⟩ ?_ ?_ ?_
  · rintro x vs e ⟨qs, y2, y3, q, nd, hq, rfl⟩
    cases qs with
    | nil => simp at hq
    | cons p qs =>
      simp only [List.map_cons, List.cons.injEq] at q
      obtain ⟨rfl, rfl⟩ := q
      simp only [List.map_cons, List.nodup_cons] at nd
      obtain ⟨a, b⟩ := p
      by_cases e : a = s
      · subst e
        have : b = v := by
          rcases List.mem_cons.mp hq with z | z
          · cases z; rfl
          · exact absurd (List.mem_map.mpr ⟨_, z, rfl⟩) nd.1
        subst this
        simp -implicitDefEqProofs -dsimp [prM]
        exact ⟨_, _, rfl, rfl⟩
      · have e' : ¬ (a : Int) = s := by omega
        have hq' : (s, v) ∈ qs := by
          rcases List.mem_cons.mp hq with z | z
          · cases z; exact absurd rfl e
          · exact z
        simp -implicitDefEqProofs -dsimp [prM, e']
        exact ⟨qs, _, _, rfl, nd.2, hq', rfl⟩
  · rintro e ⟨qs, y2, y3, q, nd, hq, rfl⟩
    have : qs = [] := by simpa using q.symm
    subst this
    simp at hq
  · rintro w e ⟨y2, y3, rfl, rfl⟩
    simp -implicitDefEqProofs -dsimp
theorem p_theirs (k : Nat) (i : Ids) (n : Nat) (hi : i.Good n) (hn : n ≤ 500) (s v : Nat) (hm : (s, v) ∈ i.theirs) : prun g hand (k + 2) "retire_theirs" [.d i.mv, .d (.int s)] = some (.d (theirsI i s).mv, []) := by
  rw [prun_d (i := fn_retire_theirs) rfl (hh _ _ _ (by decide)) rfl rfl]; unfold fn_retire_theirs
  have nd : (i.theirs.map (·.1)).Nodup := by
    have := hi.fst
    rw [Ids.met, List.map_append] at this
    exact (List.nodup_append.mp this).1
  have gf : gfM 0 [some (.int (s : Int))] (prs i.theirs, []) = some (prs (i.theirs.filter fun p => p.1 != s), []) := by
    unfold gfM prs
    simp only [List.getElem?_cons_zero]
    rw [if_pos (by simp [prM, keyM])]
    congr 3
    rw [List.filter_map]
    congr 1
    apply List.filter_congr
    intro p _
    rw [Bool.eq_iff_iff]
    simp [prM, keyM]
    omega
  have hl : i.theirs.length + i.retired.length ≤ n := by have := hi.len; simpa [Ids.met] using this
  have a := add_pr1 i.retired s v (by omega)
  have b := p_value_of hh k i.theirs s v nd hm
  have c := nodup_find nd hm
  simp -implicitDefEqProofs -dsimp [Ids.mv, gfP, gf, a, b, theirsI, c]
theorem p_theirs2 (k : Nat) (i : Ids) (n : Nat) (hi : i.Good n) (hn : n ≤ 500) (s v : Nat) (hm : (s, v) ∈ i.theirs) : prun g hand (k + 1) "_law_theirs_retired" [.d i.mv, .d (.int s)] = some (.d (theirsI i s).mv, []) := by
  rw [prun_d (i := fn_law_theirs_retired) rfl (hh _ _ _ (by decide)) rfl rfl]; unfold fn_law_theirs_retired
  have hl : i.theirs.length + i.retired.length ≤ n := by have := hi.len; simpa [Ids.met] using this
  apply eq_of_ok
  simp -implicitDefEqProofs -dsimp
  refine comp_go prM (fun p => p.1 == s) prM i.theirs rfl (fun p hp => ?_) (fun p hp _ => by simp -implicitDefEqProofs -dsimp) fun env' he => ?_
  · by_cases h1 : p.1 = s
    · simp -implicitDefEqProofs -dsimp [h1]
    · have h1' : ¬ (p.1 : Int) = s := by omega
      simp -implicitDefEqProofs -dsimp [h1, h1']
  have m1 : i.mv = .tup [prs i.own, .int i.next, prs i.theirs, prs i.retired, optN i.first] := rfl
  have c1 : cutM [prs i.own, .int i.next, prs i.theirs, prs i.retired, optN i.first] none (some 2) = [prs i.own, .int i.next] := rfl
  have f1 : ∀ q : Pr → Bool, MV.tup ((i.theirs.filter q).map prM) = prs (i.theirs.filter q) := fun _ => rfl
  have l1 := List.length_filter_le (fun p : Pr => p.1 == s) i.theirs
  have a := add_prs i.retired (i.theirs.filter fun p => p.1 == s) (by omega)
  have a4 := add_lit [prs i.own, .int i.next] [prs (i.theirs.filter fun p => p.1 != s), prs (i.retired ++ i.theirs.filter fun p => p.1 == s), optN i.first] (by simp)
  simp -implicitDefEqProofs -dsimp only [he]
  rw [m1]
  simp -implicitDefEqProofs -dsimp [restP_1, f1, c1]
  refine comp_go prM (fun p => p.1 != s) prM i.theirs rfl (fun p hp => ?_) (fun p hp _ => by simp -implicitDefEqProofs -dsimp) fun env' he => ?_
  · by_cases h1 : p.1 = s
    · simp -implicitDefEqProofs -dsimp [h1]
    · have h1' : ¬ (p.1 : Int) = s := by omega
      simp -implicitDefEqProofs -dsimp [h1, h1']
  · simp -implicitDefEqProofs -dsimp [he, restP_1, f1, a, a4, Ids.mv, theirsI]
end K56
namespace K56
open PySem MP
inductive Deed | take (s v : Nat) | retire (n : Nat) | theirs (s : Nat) | issue (v : Nat)
def Deed.mv : Deed → MV
  | .take s v => .tup [.str "take", .int s, .int v]
  | .retire n => .tup [.str "retire", .int n]
  | .theirs s => .tup [.str "theirs", .int s]
  | .issue v => .tup [.str "issue", .int v]
def Deed.Ok (i : Ids) : Deed → Prop
  | .theirs s => ∃ v, (s, v) ∈ i.theirs
  | _ => True
def stepI (i : Ids) : Deed → Option Ids
  | .take s v => takeI i s v
  | .retire n => retireI i n
  | .theirs s => some (theirsI i s)
  | .issue v => some (issueI i v)
theorem pl_prs (ps : List Pr) (h : ps.length ≤ 1000000) : pl 2 (prs ps) := by
  unfold prs
  refine ⟨by simpa using h, fun x hx => ?_⟩
  obtain ⟨p, _, rfl⟩ := List.mem_map.mp hx
  simp [prM, pl]
theorem pl_ids (i : Ids) (n : Nat) (hi : i.Good n) (hn : n ≤ 500) : pl 3 i.mv := by
  have h1 := hi.olen
  have h2 := hi.len
  simp only [Ids.met, List.length_append] at h2
  unfold Ids.mv
  refine ⟨by simp, fun x hx => ?_⟩
  simp only [List.mem_cons, List.not_mem_nil, or_false] at hx
  rcases hx with rfl | rfl | rfl | rfl | rfl
  · exact pl_prs _ (by omega)
  · simp [pl]
  · exact pl_prs _ (by omega)
  · exact pl_prs _ (by omega)
  · exact pl_opt _ _
theorem Ids.Good.mono {i : Ids} {n m : Nat} (h : i.Good n) (hm : n ≤ m) : i.Good m := ⟨h.four, h.fst, h.snd, Nat.le_trans h.len hm, Nat.le_trans h.olen hm, h.next⟩
theorem good_step {i j : Ids} {n : Nat} {d : Deed} (h : i.Good n) (hd : d.Ok i) (e : stepI i d = some j) : j.Good (n + 1) := by
  have h2 := h.len
  have h3 := h.olen
  have h4 := h.four
  cases d with
  | take s v =>
    simp only [stepI, takeI] at e
    split at e
    · cases e; exact h.mono (by omega)
    · rename_i hP
      split at e
      · cases e
      · rename_i hn
        cases e
        have nF : ∀ p ∈ i.met, p.1 ≠ s := fun p hp z => hn (.inl (by unfold hasF; rw [List.any_eq_true]; exact ⟨p, hp, by simp [z]⟩))
        have nS : ∀ p ∈ i.met, p.2 ≠ v := fun p hp z => hn (.inr (.inl (by unfold hasS; rw [List.any_eq_true]; exact ⟨p, hp, by simp [z]⟩)))
        have h5 : ¬ i.theirs.length = 4 := fun z => hn (.inr (.inr (.inr z)))
        have key : ∀ (f : Pr → Nat) (a b : List Pr) (x : Pr), ((a ++ b).map f).Nodup → (∀ p ∈ a ++ b, f p ≠ f x) → ((a ++ [x] ++ b).map f).Nodup := by
          intro f a b x nd hx
          have : (a ++ [x] ++ b).Perm (x :: (a ++ b)) := by
            rw [List.append_assoc]
            exact List.perm_middle
          refine (this.map f).nodup_iff.mpr ?_
          simp only [List.map_cons, List.nodup_cons]
          refine ⟨fun z => ?_, nd⟩
          obtain ⟨p, hp, e⟩ := List.mem_map.mp z
          exact hx p hp e
        exact ⟨by simp; omega, key (·.1) _ _ (s, v) h.fst nF, key (·.2) _ _ (s, v) h.snd nS, by simp only [Ids.met, List.length_append, List.length_cons, List.length_nil] at h2 ⊢; omega, by show i.own.length ≤ _; omega, h.next⟩
  | retire m =>
    simp only [stepI, retireI] at e
    split at e
    · cases e
    · cases e
      exact ⟨h4, h.fst, h.snd, by show i.met.length ≤ _; omega, by have := List.length_filter_le (fun p : Pr => p.1 != m) i.own; show (i.own.filter _).length ≤ _; omega, h.next⟩
  | theirs s =>
    simp only [stepI, theirsI] at e
    cases e
    have pm : (i.theirs.filter (fun p => p.1 != s) ++ (i.retired ++ i.theirs.filter fun p => p.1 == s)).Perm i.met := by
      have p1 : (i.theirs.filter (fun p => p.1 == s) ++ i.theirs.filter (fun p => p.1 != s)).Perm i.theirs := by
        have := List.filter_append_perm (fun p : Pr => p.1 == s) i.theirs
        simpa [bne] using this
      unfold Ids.met
      refine List.Perm.trans ?_ (p1.append_right i.retired)
      have : (i.theirs.filter (fun p => p.1 != s) ++ (i.retired ++ i.theirs.filter fun p => p.1 == s)).Perm ((i.theirs.filter (fun p => p.1 != s) ++ i.retired) ++ i.theirs.filter fun p => p.1 == s) := by rw [List.append_assoc]
      refine this.trans ?_
      refine List.perm_append_comm.trans ?_
      rw [List.append_assoc]
    have l1 := List.length_filter_le (fun p : Pr => p.1 != s) i.theirs
    exact ⟨by show (i.theirs.filter _).length ≤ 4; omega, (pm.map (·.1)).nodup_iff.mpr h.fst, (pm.map (·.2)).nodup_iff.mpr h.snd, Nat.le_trans (Nat.le_of_eq pm.length_eq) (by omega), by show i.own.length ≤ _; omega, h.next⟩
  | issue v =>
    simp only [stepI, issueI] at e
    cases e
    exact ⟨h4, h.fst, h.snd, by show i.met.length ≤ _; omega, by show (i.own ++ _).length ≤ _; simp; omega, by show 1 ≤ i.next + 1; omega⟩
def isF : Option Nat → Bool
  | none => false
  | some _ => true
variable {hand : Hand} (hh : HandOk hand)
include hh
theorem p_told (k : Nat) (i : Ids) (n : Nat) (hi : i.Good n) (hn : n ≤ 500) (d : Deed) (hd : d.Ok i) : prun g hand (k + 3) "_law_id_told" [.d i.mv, .d d.mv] = some (.d (optI (stepI i d)), []) := by
  rw [prun_d (i := fn_law_id_told) rfl (hh _ _ _ (by decide)) rfl rfl]; unfold fn_law_id_told
  cases d with
  | take s v => simp -implicitDefEqProofs -dsimp [Deed.mv, stepI, p_take hh (k + 1) i n hi hn s v]
  | retire m => simp -implicitDefEqProofs -dsimp [Deed.mv, stepI, p_retire hh (k + 1) i m]
  | theirs s =>
    obtain ⟨v, hv⟩ := hd
    simp -implicitDefEqProofs -dsimp [Deed.mv, stepI, p_theirs hh k i n hi hn s v hv, optI]
  | issue v => simp -implicitDefEqProofs -dsimp [Deed.mv, stepI, p_issue hh (k + 1) i n v (by have := hi.olen; omega), optI]
theorem p_due (k : Nat) (i : Ids) (n : Nat) (hi : i.Good n) (hn : n ≤ 500) (d : Deed) (hd : d.Ok i) : prun g hand (k + 3) "_law_id_due" [.d i.mv, .d d.mv] = some (.d (optI (stepI i d)), []) := by
  rw [prun_d (i := fn_law_id_due) rfl (hh _ _ _ (by decide)) rfl rfl]; unfold fn_law_id_due
  cases d with
  | take s v => simp -implicitDefEqProofs -dsimp [Deed.mv, stepI, p_taken hh (k + 1) i n hi hn s v]
  | retire m => simp -implicitDefEqProofs -dsimp [Deed.mv, stepI, p_retire2 hh (k + 1) i m]
  | theirs s =>
    obtain ⟨v, hv⟩ := hd
    simp -implicitDefEqProofs -dsimp [Deed.mv, stepI, p_theirs2 hh (k + 1) i n hi hn s v hv, optI]
  | issue v => simp -implicitDefEqProofs -dsimp [Deed.mv, stepI, p_issue2 hh (k + 1) i n v (by have := hi.olen; omega), optI]
theorem deed_go {k : Nat} {t : Tp} {i : Ids} {n : Nat} {fresh : Nat} {Q : PV × List (List MV) → Prop} (hi : i.Good n) (hn : n ≤ 500) (hx : i.next ≤ 1000000) (K : ∀ (d : Deed) (t' : Tp), d.Ok i → Q (.d d.mv, [tp t'])) : Ok Q .mk (prun g hand (k + 2) "_law_id_deed" [.own (tp t), .d i.mv, .d (.int fresh)]) := by
  rw [prun_d (i := fn_law_id_deed) rfl (hh _ _ _ (by decide)) rfl rfl]; unfold fn_law_id_deed
  have h2 := hi.len
  have hnx := hi.next
  have hl : i.theirs.length + i.retired.length ≤ n := by simpa [Ids.met] using h2
  have a := add_prs i.theirs i.retired (by omega)
  have e1 : i.theirs ++ i.retired = i.met := rfl
  have a2 := add_frl [] (a := i.met.map prM) (b := [.tup [.int 0, .int 4]]) (by show _ ≤ 16777216; simp; omega)
  have e2 : i.met.map prM ++ [.tup [.int 0, .int 4]] = (i.met ++ [(0, 4)]).map prM := by simp [prM]
  rw [e2] at a2
  simp -implicitDefEqProofs -dsimp only [e1] at a
  simp -implicitDefEqProofs -dsimp [a, a2, -List.map_append]
  refine draw_go hd (hdr hh) (by omega) (by omega) fun d1 t1 q1 => ?_
  have hd1 : d1 < (i.met ++ [(0, 4)]).length := by simp; omega
  have ea : L2.atI ((i.met ++ [(0, 4)]).map prM) (d1 : Int) = some (prM ((i.met ++ [(0, 4)])[d1])) := by rw [atI_get, List.getElem?_map, List.getElem?_eq_getElem hd1]; rfl
  simp -implicitDefEqProofs -dsimp [ea, -List.map_append]
  generalize (i.met ++ [(0, 4)])[d1] = one
  refine draw_go hd (hdr hh) (by omega) (by omega) fun c t2 q2 => ?_
  by_cases c3 : c < 3
  · have c3' : (c : Int) < 3 := by omega
    simp -implicitDefEqProofs -dsimp [c3', a]
    refine draw_go hd (hdr hh) (by omega) (by omega) fun d3 t3 q3 => ?_
    simp -implicitDefEqProofs -dsimp
    refine draw_go hd (hdr hh) (by omega) (by omega) fun d4 t4 q4 => ?_
    have e : ∃ s : Nat, L2.atI [MV.int (1 + (i.met.length : Int)), .int d3] (d4 : Int) = some (.int s) := by
      rcases (by omega : d4 = 0 ∨ d4 = 1) with rfl | rfl
      · exact ⟨1 + i.met.length, by simp⟩
      · exact ⟨d3, by simp⟩
    obtain ⟨s, e⟩ := e
    simp -implicitDefEqProofs -dsimp [e]
    exact K (.take s fresh) t4 True.intro
  have c3' : ¬ (c : Int) < 3 := by omega
  by_cases c4 : c = 3
  · subst c4
    simp -implicitDefEqProofs -dsimp
    exact K (.take one.1 one.2) t2 True.intro
  have c4' : ¬ (c : Int) = 3 := by omega
  by_cases c5 : c = 4
  · subst c5
    simp -implicitDefEqProofs -dsimp
    exact K (.take one.1 fresh) t2 True.intro
  have c5' : ¬ (c : Int) = 4 := by omega
  by_cases c6 : c = 5
  · subst c6
    cases hf : i.first with
    | none =>
      simp -implicitDefEqProofs -dsimp [hf, optN]
      refine draw_go hd (hdr hh) (by omega) (by omega) fun d3 t3 q3 => ?_
      simp -implicitDefEqProofs -dsimp
      refine draw_go hd (hdr hh) (by omega) (by omega) fun d4 t4 q4 => ?_
      have e : ∃ s : Nat, L2.atI [MV.int one.2, .int one.2] (d4 : Int) = some (.int s) := by
        rcases (by omega : d4 = 0 ∨ d4 = 1) with rfl | rfl
        · exact ⟨one.2, by simp⟩
        · exact ⟨one.2, by simp⟩
      obtain ⟨s, e⟩ := e
      simp -implicitDefEqProofs -dsimp [e]
      exact K (.take (50 + d3) s) t4 True.intro
    | some w =>
      simp -implicitDefEqProofs -dsimp [hf, optN]
      refine draw_go hd (hdr hh) (by omega) (by omega) fun d3 t3 q3 => ?_
      simp -implicitDefEqProofs -dsimp
      refine draw_go hd (hdr hh) (by omega) (by omega) fun d4 t4 q4 => ?_
      have e : ∃ s : Nat, L2.atI [MV.int one.2, .int w] (d4 : Int) = some (.int s) := by
        rcases (by omega : d4 = 0 ∨ d4 = 1) with rfl | rfl
        · exact ⟨one.2, by simp⟩
        · exact ⟨w, by simp⟩
      obtain ⟨s, e⟩ := e
      simp -implicitDefEqProofs -dsimp [e]
      exact K (.take (50 + d3) s) t4 True.intro
  have c6' : ¬ (c : Int) = 5 := by omega
  by_cases c8 : c < 8
  · have c8' : (c : Int) < 8 := by omega
    cases ho : i.own with
    | nil =>
      simp -implicitDefEqProofs -dsimp [c3', c4', c5', c6', c8']
      refine draw_go hd (hdr hh) (by omega) (by omega) fun d3 t3 q3 => ?_
      simp -implicitDefEqProofs -dsimp [ho, prs]
      refine draw_go hd (hdr hh) (by omega) (by omega) fun d4 t4 q4 => ?_
      have e : ∃ s : Nat, L2.atI [MV.int ((i.next : Int) - 1), .int i.next, .int d3, .int 0] (d4 : Int) = some (.int s) := by
        rcases (by omega : d4 = 0 ∨ d4 = 1 ∨ d4 = 2 ∨ d4 = 3) with rfl | rfl | rfl | rfl
        · exact ⟨i.next - 1, by simp; omega⟩
        · exact ⟨i.next, by simp⟩
        · exact ⟨d3, by simp⟩
        · exact ⟨0, by simp⟩
      obtain ⟨s, e⟩ := e
      simp -implicitDefEqProofs -dsimp [e]
      exact K (.retire s) t4 True.intro
    | cons o os =>
      simp -implicitDefEqProofs -dsimp [c3', c4', c5', c6', c8']
      refine draw_go hd (hdr hh) (by omega) (by omega) fun d3 t3 q3 => ?_
      simp -implicitDefEqProofs -dsimp [ho, prs]
      refine draw_go hd (hdr hh) (by omega) (by omega) fun d4 t4 q4 => ?_
      have e : ∃ s : Nat, L2.atI [MV.int ((i.next : Int) - 1), .int i.next, .int d3, .int o.1] (d4 : Int) = some (.int s) := by
        rcases (by omega : d4 = 0 ∨ d4 = 1 ∨ d4 = 2 ∨ d4 = 3) with rfl | rfl | rfl | rfl
        · exact ⟨i.next - 1, by simp; omega⟩
        · exact ⟨i.next, by simp⟩
        · exact ⟨d3, by simp⟩
        · exact ⟨o.1, by simp⟩
      obtain ⟨s, e⟩ := e
      simp -implicitDefEqProofs -dsimp [e]
      exact K (.retire s) t4 True.intro
  have c8' : ¬ (c : Int) < 8 := by omega
  cases ht : i.theirs with
  | nil =>
    by_cases c9 : c = 8
    · subst c9
      simp -implicitDefEqProofs -dsimp [ht, prs]
      exact K (.issue fresh) t2 True.intro
    · have c9' : ¬ (c : Int) = 8 := by omega
      simp -implicitDefEqProofs -dsimp [c3', c4', c5', c6', c8', c9']
      exact K (.issue fresh) t2 True.intro
  | cons o os =>
    by_cases c9 : c = 8
    · subst c9
      simp -implicitDefEqProofs -dsimp [ht, prs]
      refine draw_go hd (hdr hh) (by omega) (by simp [ht] at hl; omega) fun d3 t3 q3 => ?_
      have hd3 : d3 < (o :: os).length := by simp; omega
      have ea : L2.atI (prM o :: os.map prM) (d3 : Int) = some (prM ((o :: os)[d3])) := by
        have : L2.atI ((o :: os).map prM) (d3 : Int) = some (prM ((o :: os)[d3])) := by rw [atI_get, List.getElem?_map, List.getElem?_eq_getElem hd3]; rfl
        simpa using this
      simp -implicitDefEqProofs -dsimp [ea]
      exact K (.theirs ((o :: os)[d3]).1) t3 ⟨((o :: os)[d3]).2, by rw [ht]; exact List.getElem_mem hd3⟩
    · have c9' : ¬ (c : Int) = 8 := by omega
      simp -implicitDefEqProofs -dsimp [c3', c4', c5', c6', c8', c9']
      exact K (.issue fresh) t2 True.intro
end K56
namespace K56
open PySem MP
theorem isN_ids (i : Ids) : cmpM .isN [] i.mv .non = some false := rfl
theorem ls_ints (is : List Nat) (nd : is.Nodup) (hl : is.length < 64) : lsM (.frl (is.map fun z => .int (z : Nat)), []) = some (.int is.length, []) := by
  unfold lsM
  simp only [lstM_frl, Option.bind_some]
  have e : is.map (fun z => MV.int (z : Nat)) = (is.map fun z : Nat => (z : Int)).map .int := by simp
  rw [e, intsM_map]
  simp only [Option.bind_some]
  have nd' : (is.map fun z : Nat => (z : Int)).Nodup := by
    exact List.Pairwise.map _ (fun a b h => by omega) nd
  rw [if_pos ⟨nd', by simpa using hl⟩]
  simp
def kM (x : Ids × Deed) : MV := .tup [x.1.mv, x.2.mv]
variable {hand : Hand} (hh : HandOk hand)
include hh
theorem p_new1 (k : Nat) (o a : Nat) : prun g hand (k + 1) "new_identifiers" [.d (.str "client"), .d (.int o), .d (.int a)] = some (.d (Ids.mv ⟨[(0, o)], 1, [], [], some a⟩), []) := by
  rw [prun_d (i := fn_new_identifiers) rfl (hh _ _ _ (by decide)) rfl rfl]; unfold fn_new_identifiers
  simp -implicitDefEqProofs -dsimp [Ids.mv, prs, prM, optN]
theorem p_new2 (k : Nat) (o a : Nat) : prun g hand (k + 1) "new_identifiers" [.d (.str "server"), .d (.int o), .d (.int a)] = some (.d (Ids.mv ⟨[(0, o)], 1, [(0, a)], [], none⟩), []) := by
  rw [prun_d (i := fn_new_identifiers) rfl (hh _ _ _ (by decide)) rfl rfl]; unfold fn_new_identifiers
  simp -implicitDefEqProofs -dsimp [Ids.mv, prs, prM, optN]
theorem p_new3 (k : Nat) (o a : Nat) : prun g hand (k + 1) "_law_new_identifiers" [.d (.str "client"), .d (.int o), .d (.int a)] = some (.d (Ids.mv ⟨[(0, o)], 1, [], [], some a⟩), []) := by
  rw [prun_d (i := fn_law_new_identifiers) rfl (hh _ _ _ (by decide)) rfl rfl]; unfold fn_law_new_identifiers
  simp -implicitDefEqProofs -dsimp [Ids.mv, prs, prM, optN]
theorem p_new4 (k : Nat) (o a : Nat) : prun g hand (k + 1) "_law_new_identifiers" [.d (.str "server"), .d (.int o), .d (.int a)] = some (.d (Ids.mv ⟨[(0, o)], 1, [(0, a)], [], none⟩), []) := by
  rw [prun_d (i := fn_law_new_identifiers) rfl (hh _ _ _ (by decide)) rfl rfl]; unfold fn_law_new_identifiers
  simp -implicitDefEqProofs -dsimp [Ids.mv, prs, prM, optN]
theorem same_ids (k : Nat) (i : Ids) (n : Nat) (hi : i.Good n) (hn : n ≤ 500) : prun g hand (k + 4) "_law_same" [.d i.mv, .d i.mv] = some (.d (.bl true), []) := p_same hand hh 3 _ (pl_ids i n hi hn) k
theorem same_opt (k : Nat) (i : Ids) (n : Nat) (hi : i.Good n) (hn : n ≤ 499) (d : Deed) (hd : d.Ok i) : prun g hand (k + 4) "_law_same" [.d (optI (stepI i d)), .d (optI (stepI i d))] = some (.d (.bl true), []) := by
  cases h : stepI i d with
  | none => exact p_same hand hh 3 .non (by simp [pl]) k
  | some j => exact same_ids hh k j (n + 1) (good_step hi hd h) (by omega)
theorem life_go {k : Nat} {t : Tp} {Q : PV × List (List MV) → Prop} (K : ∀ (t' : Tp), Q (.d (.bl true), [tp t'])) : Ok Q .mk (prun g hand (k + 6) "_law_id_life" [.own (tp t)]) := by
  have good1 : Ids.Good ⟨[(0, 5)], 1, [], [], some 4⟩ 1 := ⟨by simp, by simp [Ids.met], by simp [Ids.met], by simp [Ids.met], by simp, by simp⟩
  have good2 : Ids.Good ⟨[(0, 5)], 1, [(0, 4)], [], none⟩ 1 := ⟨by simp, by simp [Ids.met], by simp [Ids.met], by simp [Ids.met], by simp, by simp⟩
  have good3 : Ids.Good ⟨[(0, 7)], 1, [(0, 5)], [], none⟩ 1 := ⟨by simp, by simp [Ids.met], by simp [Ids.met], by simp [Ids.met], by simp, by simp⟩
  rw [prun_d (i := fn_law_id_life) rfl (hh _ _ _ (by decide)) rfl rfl]; unfold fn_law_id_life
  simp -implicitDefEqProofs -dsimp
  refine draw_go hd (hdr hh) (by omega) (by omega) fun d1 t1 q1 => ?_
  have role : ∃ (r : Str) (i0 : Ids), L2.atI [MV.str "client", .str "server"] (d1 : Int) = some (.str r) ∧ i0.Good 1 ∧ i0.next = 1 ∧ prun g hand (k + 5) "new_identifiers" [.d (.str r), .d (.int 5), .d (.int 4)] = some (.d i0.mv, []) ∧ prun g hand (k + 5) "_law_new_identifiers" [.d (.str r), .d (.int 5), .d (.int 4)] = some (.d i0.mv, []) := by
    rcases (by omega : d1 = 0 ∨ d1 = 1) with rfl | rfl
    · exact ⟨_, _, by simp, good1, rfl, p_new1 hh (k + 4) 5 4, p_new3 hh (k + 4) 5 4⟩
    · exact ⟨_, _, by simp, good2, rfl, p_new2 hh (k + 4) 5 4, p_new4 hh (k + 4) 5 4⟩
  obtain ⟨r, i0, e1, g0, gn, e2, e3⟩ := role
  have n2 := p_new2 hh (k + 4) 7 5
  have n4 := p_new4 hh (k + 4) 7 5
  rw [show ((7 : Nat) : Int) = 7 from rfl, show ((5 : Nat) : Int) = 5 from rfl] at n2 n4
  have s1 := same_ids hh (k + 1) i0 1 g0 (by omega)
  have s2 := same_ids hh (k + 1) _ 1 good3 (by omega)
  simp -implicitDefEqProofs -dsimp [e1, e2, e3, n2, n4, s1, s2]
  rw [ps_for _ _ _ _ _ _ _ _ rfl]
  simp -implicitDefEqProofs -dsimp
  refine draw_go hd (hdr hh) (by omega) (by omega) fun m t2 q2 => ?_
  have r2 := rng1_items (n := 8 + m) (by omega) []
  rw [show (((8 + m : Nat)) : Int) = 8 + (m : Int) from by omega] at r2
  simp -implicitDefEqProofs -dsimp [r2]
  refine for_inv (fun its e => ∃ (t : Tp) (i : Ids) (kp : List (Ids × Deed)) (y4 y5 y6 y7 : Option PV), (∃ js : List Nat, its = js.map (fun j => MV.int (j : Nat))) ∧ its.length + kp.length = 8 + m ∧ i.Good (1 + kp.length) ∧ i.next ≤ 1 + kp.length ∧ (∀ x ∈ kp, x.1.Good 100 ∧ x.2.Ok x.1) ∧
      e = [some (.own (tp t)), some (.d (.str r)), some (.d i.mv), some (.own (kp.map kM)), y4, y5, y6, y7, none, none, none])
    ⟨t2, i0, [], none, none, none, none, ⟨List.range (8 + m), rfl⟩, by simp, g0, by simp [gn], by simp, rfl⟩ ?_ ?_
  · rintro x vs e ⟨t, i, kp, y4, y5, y6, y7, ⟨js, q⟩, hl, gi, nx, hk, rfl⟩
    cases js with
    | nil => simp at q
    | cons j js =>
      simp only [List.map_cons, List.cons.injEq] at q
      obtain ⟨rfl, rfl⟩ := q
      simp only [List.length_cons] at hl
      have f1 : (10 : Int) + 3 * (j : Int) = ((10 + 3 * j : Nat) : Int) := by omega
      have f2 : (11 : Int) + 3 * (j : Int) = ((11 + 3 * j : Nat) : Int) := by omega
      simp -implicitDefEqProofs -dsimp
      rw [f1]
      refine deed_go hh gi (by omega) (by omega) fun d t3 hd3 => ?_
      have a1 := p_due hh (k + 2) i _ gi (by omega) d hd3
      have a2 := p_told hh (k + 2) i _ gi (by omega) d hd3
      have a3 := same_opt hh (k + 1) i _ gi (by omega) d hd3
      simp -implicitDefEqProofs -dsimp [a1, a2, a3]
      refine draw_go hd (hdr hh) (by omega) (by omega) fun d5 t5 q5 => ?_
      have fin : ∀ (t : Tp) (y7 : Option PV), Ok (fun o => (o.fl = PFl.nx ∨ o.fl = PFl.ct) ∧ Hid' (∃ (t : Tp) (i : Ids) (kp : List (Ids × Deed)) (y4 y5 y6 y7 : Option PV), (∃ js' : List Nat, js.map (fun j => MV.int (j : Nat)) = js'.map (fun j => MV.int (j : Nat))) ∧ (js.map (fun j => MV.int (j : Nat))).length + kp.length = 8 + m ∧ i.Good (1 + kp.length) ∧ i.next ≤ 1 + kp.length ∧ (∀ x ∈ kp, x.1.Good 100 ∧ x.2.Ok x.1) ∧
          o.env = [some (.own (tp t)), some (.d (.str r)), some (.d i.mv), some (.own (kp.map kM)), y4, y5, y6, y7, none, none, none]) .mk) .mk (pSs g (prun g hand (k + 5)) 1 [.ex (.meth .append (.var 3) [.tup [.var 2, .var 5]]), .asg (.nm 2) (.ife (.cmp .isN (.var 6) (.non)) (.var 2) (.var 6))]
          [some (.own (tp t)), some (.d (.str r)), some (.d i.mv), some (.own (kp.map kM)), some (.d (.int j)), some (.d d.mv), some (.d (optI (stepI i d))), y7, none, none, none]) := by
        intro t y7
        simp -implicitDefEqProofs -dsimp
        rw [methP_app _ _ (kp.map kM) (by simp) (by simp; show _ < 16777216; omega)]
        have hk' : ∀ x ∈ kp ++ [(i, d)], x.1.Good 100 ∧ x.2.Ok x.1 := fun x hx => by
          rcases List.mem_append.mp hx with h | h
          · exact hk x h
          · rw [List.mem_singleton.mp h]; exact ⟨gi.mono (by omega), hd3⟩
        have em : kp.map kM ++ [.tup [i.mv, d.mv]] = (kp ++ [(i, d)]).map kM := by simp [kM]
        cases hs : stepI i d with
        | none =>
          simp -implicitDefEqProofs -dsimp [optI, em]
          exact ⟨t, i, kp ++ [(i, d)], _, _, _, _, ⟨js, rfl⟩, by simp at hl ⊢; omega, gi.mono (by simp), by simp; omega, hk', by rw [List.map_append]; rfl⟩
        | some i2 =>
          have g2 := good_step gi hd3 hs
          have nx2 : i2.next ≤ i.next + 1 := by
            cases d with
            | take s v =>
              simp only [stepI, takeI] at hs
              split at hs
              · cases hs; omega
              · split at hs
                · cases hs
                · cases hs; show i.next ≤ _; omega
            | retire n =>
              simp only [stepI, retireI] at hs
              split at hs
              · cases hs
              · cases hs; show i.next ≤ _; omega
            | theirs s => simp only [stepI, theirsI] at hs; cases hs; show i.next ≤ _; omega
            | issue v => simp only [stepI, issueI] at hs; cases hs; show i.next + 1 ≤ _; omega
          simp -implicitDefEqProofs -dsimp [optI, isN_ids, em]
          exact ⟨t, i2, kp ++ [(i, d)], _, _, _, _, ⟨js, rfl⟩, by simp at hl ⊢; omega, g2.mono (by simp; omega), by simp; omega, hk', by rw [List.map_append]; rfl⟩
      by_cases h5 : d5 = 0
      · subst h5
        simp -implicitDefEqProofs -dsimp
        rw [f2]
        refine deed_go hh gi (by omega) (by omega) fun d6 t6 hd6 => ?_
        have b1 := p_due hh (k + 2) i _ gi (by omega) d6 hd6
        have b2 := p_told hh (k + 2) i _ gi (by omega) d6 hd6
        have b3 := same_opt hh (k + 1) i _ gi (by omega) d6 hd6
        have := fin t6 (some (.d d6.mv))
        simp -implicitDefEqProofs -dsimp at this
        simp -implicitDefEqProofs -dsimp [a2, a3, b1, b2, b3]
        exact this
      · have := fin t5 y7
        simp -implicitDefEqProofs -dsimp at this
        simp -implicitDefEqProofs -dsimp [h5]
        exact this
  · rintro e ⟨t, i, kp, y4, y5, y6, y7, ⟨js, q⟩, hl, gi, nx, hk, rfl⟩
    have hj : js = [] := by simpa using q.symm
    subst hj
    simp only [List.length_nil, Nat.zero_add] at hl
    have h2 := gi.len
    simp only [Ids.met, List.length_append] at h2
    simp -implicitDefEqProofs -dsimp
    refine draw_go hd (hdr hh) (by omega) (by omega) fun d6 t6 q6 => ?_
    have hd6 : d6 < kp.length := by omega
    have ea : L2.atI (kp.map kM) (d6 : Int) = some (kM kp[d6]) := by rw [atI_get, List.getElem?_map, List.getElem?_eq_getElem hd6]; rfl
    have hold := hk kp[d6] (List.getElem_mem hd6)
    generalize kp[d6] = old at ea hold
    obtain ⟨oi, od⟩ := old
    have a1 := p_due hh (k + 2) oi _ hold.1 (by omega) od hold.2
    have a2 := p_told hh (k + 2) oi _ hold.1 (by omega) od hold.2
    have a3 := same_opt hh (k + 1) oi _ hold.1 (by omega) od hold.2
    have a := add_prs i.theirs i.retired (by omega)
    rw [show i.theirs ++ i.retired = i.met from rfl] at a
    have ml : i.met.length < 64 := by simp only [Ids.met, List.length_append]; omega
    have l1 := ls_ints (i.met.map (·.1)) gi.fst (by simpa using ml)
    have l2 := ls_ints (i.met.map (·.2)) gi.snd (by simpa using ml)
    simp only [List.map_map, List.length_map] at l1 l2
    have m1 : (fun z : Nat => MV.int (z : Nat)) ∘ (fun x : Pr => x.1) = fun p : Pr => MV.int (p.1 : Nat) := rfl
    have m2 : (fun z : Nat => MV.int (z : Nat)) ∘ (fun x : Pr => x.2) = fun p : Pr => MV.int (p.2 : Nat) := rfl
    rw [m1] at l1
    rw [m2] at l2
    simp -implicitDefEqProofs -dsimp [ea, a]
    refine comp_map prM (fun p => .int (p.1 : Nat)) i.met rfl (fun p hp => by simp -implicitDefEqProofs -dsimp) fun env' he => ?_
    simp -implicitDefEqProofs -dsimp [he, restP_1, l1]
    refine comp_map prM (fun p => .int (p.2 : Nat)) i.met rfl (fun p hp => by simp -implicitDefEqProofs -dsimp) fun env' he => ?_
    simp -implicitDefEqProofs -dsimp [he, restP_1, l2, kM, a1, a2, a3]
    exact K t6
end K56
namespace K56
open PySem MP
theorem add_fl {a b : List MV} (h : a.length + b.length ≤ 1000) : binM .add [] (.frl a) (.frl b) = some (.ref 0, [.lst (a ++ b)]) := add_frl [] (by show _ ≤ 16777216; omega)
def menu (k s : Nat) : List Row := [.box k 0 .route (.one s), .box k 0 .route (.one s), .box k 0 .route (.one s), .box k 5 .route (.one s), .box k 0 .app (.one s), .box k 0 .zero (.one s), .box k 0 .nil (.one s), .box k 0 .route (.one 64),
  .box k 0 .route (.two s s), .box k 0 .route .nil, .box k 0 .route .a, .box k 0 .route (.int s), .box k 0 .route (.nest s), .drawn, .tag k s, .sig k s, .wrap k s]
variable {hand : Hand} (hh : HandOk hand)
include hh
theorem vault_go {k : Nat} {t : Tp} {Q : PV × List (List MV) → Prop} (K : ∀ (v : Vault) (t' : Tp), v.Good → Q (.d v.mv, [tp t'])) : Ok Q .mk (prun g hand (k + 2) "_law_vault" [.own (tp t)]) := by
  rw [prun_d (i := fn_law_vault) rfl (hh _ _ _ (by decide)) rfl rfl]; unfold fn_law_vault
  simp -implicitDefEqProofs -dsimp
  refine draw_go hd (hdr hh) (by omega) (by omega) fun m t1 q1 => ?_
  have r2 := rng1_items (n := 2 + m) (by omega) []
  rw [show (((2 + m : Nat)) : Int) = 2 + (m : Int) from by omega] at r2
  simp -implicitDefEqProofs -dsimp [r2]
  refine comp_map (fun i : Nat => MV.int (i : Nat)) secM (List.range (2 + m)) rfl (fun p hp => by simp -implicitDefEqProofs -dsimp [secM]) fun env' he => ?_
  simp -implicitDefEqProofs -dsimp [he, restP_1, r2]
  refine comp_map (fun i : Nat => MV.int (i : Nat)) (fun i => Row.mv (.pub i)) (List.range (2 + m)) rfl (fun p hp => by simp -implicitDefEqProofs -dsimp [Row.mv]) fun env' he => ?_
  simp -implicitDefEqProofs -dsimp [he, restP_1]
  rw [ps_for _ _ _ _ _ _ _ _ rfl]
  simp -implicitDefEqProofs -dsimp
  refine draw_go hd (hdr hh) (by omega) (by omega) fun n t2 q2 => ?_
  have r3 := rng1_items (n := n) (by omega) []
  simp -implicitDefEqProofs -dsimp [r3]
  refine for_inv (fun its e => ∃ (t : Tp) (rows : List Row) (y3 y5 y6 y7 y8 : Option PV), 1 ≤ rows.length ∧ its.length + rows.length ≤ 20 ∧ e = [some (.own (tp t)), some (.d (.int (2 + (m : Int)))), some (.d (.tup ((List.range (2 + m)).map secM))), y3, some (.own (rows.map Row.mv)), y5, y6, y7, y8])
    ⟨t2, (List.range (2 + m)).map .pub, none, none, none, none, none, by simp; omega, by simp; omega, by simp⟩ ?_ ?_
  · rintro x vs e ⟨t, rows, y3, y5, y6, y7, y8, h1, h2, rfl⟩
    simp only [List.length_cons] at h2
    simp -implicitDefEqProofs -dsimp
    refine draw_go hd (hdr hh) (by omega) (by omega) fun d1 t1 q1 => ?_
    simp -implicitDefEqProofs -dsimp
    refine draw_go hd (hdr hh) (by omega) (by omega) fun d2 t2 q2 => ?_
    simp -implicitDefEqProofs -dsimp
    refine draw_go hd (hdr hh) (by omega) (by omega) fun d3 t3 q3 => ?_
    have e : ∃ n : Nat, L2.atI [.int 0, .int 63, .int (d2 : Int)] (d3 : Int) = some (MV.int n) := by
      rcases three q3 with rfl | rfl | rfl
      · exact ⟨0, by simp⟩
      · exact ⟨63, by simp⟩
      · exact ⟨d2, by simp⟩
    obtain ⟨s, e⟩ := e
    simp -implicitDefEqProofs -dsimp [e, add_fl]
    refine draw_go hd (hdr hh) (by omega) (by omega) fun d4 t4 q4 => ?_
    have hm : d4 < (menu d1 s).length := by simp [menu]; omega
    have em : (menu d1 s).map Row.mv = [.tup [.str "box", .int d1, .int 0, .tup [.str "route"], .tup [.int s]], .tup [.str "box", .int d1, .int 0, .tup [.str "route"], .tup [.int s]], .tup [.str "box", .int d1, .int 0, .tup [.str "route"], .tup [.int s]], .tup [.str "box", .int d1, .int 5, .tup [.str "route"], .tup [.int s]],
      .tup [.str "box", .int d1, .int 0, .tup [.str "app", .int 4, .int 0], .tup [.int s]], .tup [.str "box", .int d1, .int 0, .tup [.str "route", .int 0], .tup [.int s]], .tup [.str "box", .int d1, .int 0, .tup [], .tup [.int s]], .tup [.str "box", .int d1, .int 0, .tup [.str "route"], .tup [.int 64]], .tup [.str "box", .int d1, .int 0, .tup [.str "route"], .tup [.int s, .int s]],
      .tup [.str "box", .int d1, .int 0, .tup [.str "route"], .tup []], .tup [.str "box", .int d1, .int 0, .tup [.str "route"], .tup [.str "a"]], .tup [.str "box", .int d1, .int 0, .tup [.str "route"], .int s], .tup [.str "box", .int d1, .int 0, .tup [.str "route"], .tup [.tup [.int s]]], .tup [.str "drawn"], .tup [.str "tag", .int d1, .tup [.int s]],
      .tup [.str "signature", .int d1, .tup [.int s]], .tup [.str "wrapped", .int d1, .tup [.str "route"], .int 0, .tup [.int s]]] := rfl
    have ea : L2.atI ((menu d1 s).map Row.mv) (d4 : Int) = some (Row.mv (menu d1 s)[d4]) := by rw [atI_get, List.getElem?_map, List.getElem?_eq_getElem hm]; rfl
    rw [em] at ea
    generalize (menu d1 s)[d4] = row at ea
    simp -implicitDefEqProofs -dsimp [ea]
    rw [methP_app _ _ (rows.map Row.mv) (by simp) (by simp; show _ < 16777216; omega)]
    simp -implicitDefEqProofs -dsimp
    exact ⟨t4, rows ++ [row], _, _, _, _, _, by simp, by simp; omega, by rw [List.map_append]; rfl⟩
  · rintro e ⟨t, rows, y3, y5, y6, y7, y8, h1, h2, rfl⟩
    simp -implicitDefEqProofs -dsimp
    refine K ⟨List.range (2 + m), rows⟩ t ⟨by simp; omega, h1, by show rows.length ≤ 100; simp at h2; omega⟩
end K56
namespace K56
open PySem MP
structure Pth where
  loc : Int
  rem : Int
  val : Bool
  lim : Bool
  rcv : Int
  snt : Int
  chal : Option (Nat × Nat)
  tries : Int
  due : Bool
  resp : List Nat
  theirs : Nat
  ours : Option Nat
  gone : Bool
  repl : Bool
  eb : Bool
  e1 : Int
  sm : Int
  e3 : Int
  e4 : Int
  rule : List Int
  w1 : Int
  w2 : Int
  under : Int
  alarms : Int
def chalM : Option (Nat × Nat) → MV
  | none => .non
  | some p => prM p
def Pth.xs (p : Pth) (ctl : MV) : List MV := [.int p.loc, .int p.rem, .bl p.val, .bl p.lim, .int p.rcv, .int p.snt, chalM p.chal, .int p.tries, .bl p.due, nats p.resp, .int p.theirs, optN p.ours, .bl p.gone, .bl p.repl, .tup [.bl p.eb, .int p.e1, .int p.sm, .int p.e3, .int p.e4], ctl, .int p.under, .int p.alarms]
def Pth.ctl (p : Pth) : List MV := [.tup (p.rule.map .int), .int p.w1, .int p.w2, .bl true, .int 0, .int 0, .int 0, .int 0]
/-- as the program has it, as the law has it -/
def Pth.fz (p : Pth) : MV := .tup (p.xs (.tup p.ctl))
def Pth.lx (p : Pth) : MV := .frl (p.xs (.frl p.ctl))
def gl (x : Str) (i : Int) : Prop := g.cns.lookup x = some (.int i)
section
variable (cp : Str → List PV → Option (PV × List (List MV))) (env : PEnv)
theorem x_gl {x : Str} {i : Int} (h : g.cns.lookup x = some (.int i)) : pX g cp (.glob x) env = some (.d (.int i), env) := px_glob g cp env h (by simp)
@[simp] theorem x_1 : pX g cp (.glob "VALIDATED") env = some (.d (.int 2), env) := x_gl cp env rfl
@[simp] theorem x_2 : pX g cp (.glob "LIMITED") env = some (.d (.int 3), env) := x_gl cp env rfl
@[simp] theorem x_3 : pX g cp (.glob "RECEIVED") env = some (.d (.int 4), env) := x_gl cp env rfl
@[simp] theorem x_4 : pX g cp (.glob "SENT") env = some (.d (.int 5), env) := x_gl cp env rfl
@[simp] theorem x_5 : pX g cp (.glob "CHALLENGE") env = some (.d (.int 6), env) := x_gl cp env rfl
@[simp] theorem x_6 : pX g cp (.glob "DUE") env = some (.d (.int 8), env) := x_gl cp env rfl
@[simp] theorem x_7 : pX g cp (.glob "RESPONSES") env = some (.d (.int 9), env) := x_gl cp env rfl
@[simp] theorem x_8 : pX g cp (.glob "THEIRS") env = some (.d (.int 10), env) := x_gl cp env rfl
@[simp] theorem x_9 : pX g cp (.glob "OURS") env = some (.d (.int 11), env) := x_gl cp env rfl
@[simp] theorem x_10 : pX g cp (.glob "GIVEN_UP") env = some (.d (.int 12), env) := x_gl cp env rfl
@[simp] theorem x_11 : pX g cp (.glob "REPLACES") env = some (.d (.int 13), env) := x_gl cp env rfl
@[simp] theorem x_12 : pX g cp (.glob "ESTIMATE") env = some (.d (.int 14), env) := x_gl cp env rfl
@[simp] theorem x_13 : pX g cp (.glob "CONTROLLER") env = some (.d (.int 15), env) := x_gl cp env rfl
@[simp] theorem x_14 : pX g cp (.glob "UNDER_WAY") env = some (.d (.int 16), env) := x_gl cp env rfl
@[simp] theorem x_15 : pX g cp (.glob "ALARMS") env = some (.d (.int 17), env) := x_gl cp env rfl
@[simp] theorem x_16 : pX g cp (.glob "AMPLIFICATION") env = some (.d (.int 3), env) := x_gl cp env rfl
@[simp] theorem x_17 : pX g cp (.glob "MOST_RESPONSES") env = some (.d (.int 4), env) := x_gl cp env rfl
@[simp] theorem x_18 : pX g cp (.glob "MOST_ALARMS") env = some (.d (.int 3), env) := x_gl cp env rfl
end
theorem cut_to (xs : List MV) (n : Nat) : cutM xs none (some (n : Int)) = xs.take n := by
  unfold cutM
  rw [HT.sIx_none, HT.sIx_nat, List.drop_zero, Nat.sub_zero]
  by_cases h : n ≤ xs.length
  · rw [Nat.min_eq_left h]
  · rw [Nat.min_eq_right (by omega), List.take_length, List.take_of_length_le (by omega)]
theorem cut_from (xs : List MV) (n : Nat) : cutM xs (some (n : Int)) none = xs.drop n := by
  unfold cutM
  rw [HT.sIx_none, HT.sIx_nat]
  by_cases h : n ≤ xs.length
  · rw [Nat.min_eq_left h, List.take_of_length_le (by simp)]
  · rw [Nat.min_eq_right (by omega), List.drop_length, List.drop_of_length_le (by omega)]; simp
variable {hand : Hand} (hh : HandOk hand)
include hh
theorem p_changed (k : Nat) (xs : List MV) (n : Nat) (v : MV) (hn : n < xs.length) (hl : xs.length ≤ 1000) : prun g hand (k + 1) "changed" [.d (.tup xs), .d (.int n), .d v] = some (.d (.tup (xs.set n v)), []) := by
  rw [prun_d (i := fn_changed) rfl (hh _ _ _ (by decide)) rfl rfl]; unfold fn_changed
  have c1 := cut_to xs n
  have c2 := cut_from xs (n + 1)
  rw [show ((n + 1 : Nat) : Int) = (n : Int) + 1 from by omega] at c2
  have a1 := add_tup [] (a := xs.take n) (b := [v]) (by show _ ≤ 16777216; simp; omega)
  have a2 := add_tup [] (a := xs.take n ++ [v]) (b := xs.drop (n + 1)) (by show _ ≤ 16777216; simp; omega)
  have e : xs.take n ++ [v] ++ xs.drop (n + 1) = xs.set n v := by
    rw [List.set_eq_take_append_cons_drop, if_pos hn]; simp
  rw [e] at a2
  simp -implicitDefEqProofs -dsimp [c1, c2, a1, a2, -List.append_assoc]
theorem p_frozen0 (k : Nat) (v : MV) (h : isiM [] v .list = some false) : prun g hand (k + 1) "_law_frozen" [.d v] = some (.d v, []) := by
  rw [prun_d (i := fn_law_frozen) rfl (hh _ _ _ (by decide)) rfl rfl]; unfold fn_law_frozen
  simp -implicitDefEqProofs -dsimp [h]
theorem p_frozenL (k : Nat) (xs : List MV) (f : MV → MV) (h : ∀ x ∈ xs, prun g hand (k + 1) "_law_frozen" [.d x] = some (.d (f x), [])) : prun g hand (k + 2) "_law_frozen" [.d (.frl xs)] = some (.d (.tup (xs.map f)), []) := by
  rw [prun_d (i := fn_law_frozen) rfl (hh _ _ _ (by decide)) rfl rfl]; unfold fn_law_frozen
  apply eq_of_ok
  simp -implicitDefEqProofs -dsimp
  refine comp_map id f xs (by simp) (fun x hx => by simp -implicitDefEqProofs -dsimp [h x hx]) fun env' he => ?_
  simp -implicitDefEqProofs -dsimp [he, restP_1]
theorem p_frozenO (k : Nat) (xs : List MV) (f : MV → MV) (h : ∀ x ∈ xs, prun g hand (k + 1) "_law_frozen" [.d x] = some (.d (f x), [])) : prun g hand (k + 2) "_law_frozen" [.own xs] = some (.d (.tup (xs.map f)), [xs]) := by
  rw [prun_d (i := fn_law_frozen) rfl (hh _ _ _ (by decide)) rfl rfl]; unfold fn_law_frozen
  apply eq_of_ok
  simp -implicitDefEqProofs -dsimp
  refine comp_map id f xs (by simp) (fun x hx => by simp -implicitDefEqProofs -dsimp [h x hx]) fun env' he => ?_
  simp -implicitDefEqProofs -dsimp [he, restP_1]
theorem p_copied0 (k : Nat) (v : MV) (h : isiM [] v .list = some false) : prun g hand (k + 1) "_law_copied" [.d v] = some (.d v, []) := by
  rw [prun_d (i := fn_law_copied) rfl (hh _ _ _ (by decide)) rfl rfl]; unfold fn_law_copied
  simp -implicitDefEqProofs -dsimp [h]
theorem p_copiedL (k : Nat) (xs : List MV) (h : ∀ x ∈ xs, prun g hand (k + 1) "_law_copied" [.d x] = some (.d x, []) ∨ ∃ ys, x = .frl ys ∧ prun g hand (k + 1) "_law_copied" [.d x] = some (.own ys, [])) : prun g hand (k + 2) "_law_copied" [.d (.frl xs)] = some (.own xs, []) := by
  rw [prun_d (i := fn_law_copied) rfl (hh _ _ _ (by decide)) rfl rfl]; unfold fn_law_copied
  apply eq_of_ok
  simp -implicitDefEqProofs -dsimp
  refine comp_map id id xs (by simp) (fun x hx => by
    rcases h x hx with h | ⟨ys, rfl, h⟩ <;> simp -implicitDefEqProofs -dsimp [h]) fun env' he => ?_
  simp -implicitDefEqProofs -dsimp [he, restP_1]
def fzV : MV → MV
  | .frl xs => .tup xs
  | v => v
theorem p_fzX (k : Nat) (p : Pth) : ∀ x ∈ p.xs (.frl p.ctl), prun g hand (k + 2) "_law_frozen" [.d x] = some (.d (fzV x), []) := by
  intro x hx
  have c0 : ∀ y ∈ p.ctl, prun g hand (k + 1) "_law_frozen" [.d y] = some (.d (id y), []) := fun y hy => by
    refine p_frozen0 hh k y ?_
    simp only [Pth.ctl, List.mem_cons, List.not_mem_nil, or_false] at hy
    rcases hy with rfl | rfl | rfl | rfl | rfl | rfl | rfl | rfl <;> simp
  have c := p_frozenL hh k p.ctl id c0
  rw [List.map_id] at c
  have s : ∀ v : MV, isiM [] v .list = some false → fzV v = v → prun g hand (k + 2) "_law_frozen" [.d v] = some (.d (fzV v), []) := fun v h e => by rw [e]; exact p_frozen0 hh (k + 1) v h
  simp only [Pth.xs, List.mem_cons, List.not_mem_nil, or_false] at hx
  rcases hx with rfl | rfl | rfl | rfl | rfl | rfl | rfl | rfl | rfl | rfl | rfl | rfl | rfl | rfl | rfl | rfl | rfl | rfl
  case inr.inr.inr.inr.inr.inr.inr.inr.inr.inr.inr.inr.inr.inr.inr.inl => exact c
  case inr.inr.inr.inr.inr.inr.inl => cases p.chal <;> exact s _ (by simp [chalM, prM]) (by simp [chalM, prM, fzV])
  case inr.inr.inr.inr.inr.inr.inr.inr.inr.inr.inr.inl => cases p.ours <;> exact s _ (by simp [optN]) (by simp [optN, fzV])
  all_goals exact s _ (by simp [nats]) (by simp [nats, fzV])
theorem p_fz (k : Nat) (p : Pth) : prun g hand (k + 3) "_law_frozen" [.d p.lx] = some (.d p.fz, []) := by
  have := p_frozenL hh (k + 1) _ fzV (p_fzX hh k p)
  have e : (p.xs (.frl p.ctl)).map fzV = p.xs (.tup p.ctl) := by
    cases h1 : p.chal <;> cases h2 : p.ours <;> simp [Pth.xs, h1, h2, chalM, optN, fzV, prM, nats]
  rw [e] at this
  exact this
theorem p_cpX (k : Nat) (p : Pth) : ∀ x ∈ p.xs (.frl p.ctl), prun g hand (k + 2) "_law_copied" [.d x] = some (.d x, []) ∨ ∃ ys, x = .frl ys ∧ prun g hand (k + 2) "_law_copied" [.d x] = some (.own ys, []) := by
  intro x hx
  have c0 : ∀ y ∈ p.ctl, prun g hand (k + 1) "_law_copied" [.d y] = some (.d y, []) ∨ ∃ ys, y = .frl ys ∧ prun g hand (k + 1) "_law_copied" [.d y] = some (.own ys, []) := fun y hy => by
    left
    refine p_copied0 hh k y ?_
    simp only [Pth.ctl, List.mem_cons, List.not_mem_nil, or_false] at hy
    rcases hy with rfl | rfl | rfl | rfl | rfl | rfl | rfl | rfl <;> simp
  have c := p_copiedL hh k p.ctl c0
  have s : ∀ v : MV, isiM [] v .list = some false → prun g hand (k + 2) "_law_copied" [.d v] = some (.d v, []) := fun v h => p_copied0 hh (k + 1) v h
  simp only [Pth.xs, List.mem_cons, List.not_mem_nil, or_false] at hx
  rcases hx with rfl | rfl | rfl | rfl | rfl | rfl | rfl | rfl | rfl | rfl | rfl | rfl | rfl | rfl | rfl | rfl | rfl | rfl
  case inr.inr.inr.inr.inr.inr.inr.inr.inr.inr.inr.inr.inr.inr.inr.inl => exact .inr ⟨_, rfl, c⟩
  case inr.inr.inr.inr.inr.inr.inl => left; cases p.chal <;> exact s _ (by simp [chalM, prM])
  case inr.inr.inr.inr.inr.inr.inr.inr.inr.inr.inr.inl => left; cases p.ours <;> exact s _ (by simp [optN])
  all_goals exact .inl (s _ (by simp [nats]))
theorem p_cp (k : Nat) (p : Pth) : prun g hand (k + 3) "_law_copied" [.d p.lx] = some (.own (p.xs (.frl p.ctl)), []) := p_copiedL hh (k + 1) _ (p_cpX hh k p)
theorem p_cps (k : Nat) (ps : List Pth) : prun g hand (k + 4) "_law_copied" [.d (.frl (ps.map Pth.lx))] = some (.own (ps.map Pth.lx), []) := by
  refine p_copiedL hh (k + 2) _ fun x hx => ?_
  obtain ⟨p, _, rfl⟩ := List.mem_map.mp hx
  exact .inr ⟨_, rfl, p_cp hh k p⟩
theorem p_fzs (k : Nat) (ps : List Pth) : prun g hand (k + 4) "_law_frozen" [.d (.frl (ps.map Pth.lx))] = some (.d (.tup (ps.map Pth.fz)), []) := by
  have := p_frozenL hh (k + 2) (ps.map Pth.lx) (fun v => match v with | .frl xs => .tup (xs.map fzV) | v => v) fun x hx => by
    obtain ⟨p, _, rfl⟩ := List.mem_map.mp hx
    have e : (p.xs (.frl p.ctl)).map fzV = p.xs (.tup p.ctl) := by
      cases h1 : p.chal <;> cases h2 : p.ours <;> simp [Pth.xs, h1, h2, chalM, optN, fzV, prM, nats]
    have := p_fz hh k p
    simp only [Pth.lx, Pth.fz, e] at this ⊢
    exact this
  rw [this]
  congr 4
  rw [List.map_map]
  apply List.map_congr_left
  intro p _
  have e : (p.xs (.frl p.ctl)).map fzV = p.xs (.tup p.ctl) := by
    cases h1 : p.chal <;> cases h2 : p.ours <;> simp [Pth.xs, h1, h2, chalM, optN, fzV, prM, nats]
  simp only [Function.comp, Pth.lx, Pth.fz, e]
theorem p_fzsO (k : Nat) (ps : List Pth) : prun g hand (k + 4) "_law_frozen" [.own (ps.map Pth.lx)] = some (.d (.tup (ps.map Pth.fz)), [ps.map Pth.lx]) := by
  have := p_frozenO hh (k + 2) (ps.map Pth.lx) (fun v => match v with | .frl xs => .tup (xs.map fzV) | v => v) fun x hx => by
    obtain ⟨p, _, rfl⟩ := List.mem_map.mp hx
    have e : (p.xs (.frl p.ctl)).map fzV = p.xs (.tup p.ctl) := by
      cases h1 : p.chal <;> cases h2 : p.ours <;> simp [Pth.xs, h1, h2, chalM, optN, fzV, prM, nats]
    have := p_fz hh k p
    simp only [Pth.lx, Pth.fz, e] at this ⊢
    exact this
  rw [this]
  congr 4
  rw [List.map_map]
  apply List.map_congr_left
  intro p _
  have e : (p.xs (.frl p.ctl)).map fzV = p.xs (.tup p.ctl) := by
    cases h1 : p.chal <;> cases h2 : p.ours <;> simp [Pth.xs, h1, h2, chalM, optN, fzV, prM, nats]
  simp only [Function.comp, Pth.lx, Pth.fz, e]
end K56
namespace K56
open PySem MP
def newP (cl : Bool) (full trip : Int) (rule : List Int) (l r : Int) (zero : Bool) (theirs : Nat) (ours : Option Nat) (repl : Bool) : Pth :=
  { loc := l, rem := r, val := zero && cl, lim := !cl, rcv := 0, snt := 0, chal := none, tries := 0, due := !zero, resp := [], theirs := theirs, ours := ours, gone := false, repl := repl, eb := false, e1 := trip, sm := trip, e3 := trip / 2, e4 := trip, rule := rule, w1 := 2 * full, w2 := 4 * full, under := 0, alarms := 0 }
def roleM (cl : Bool) : MV := .str (if cl = true then "client" else "server")
def profM (full trip : Int) : MV := .tup [.int 120, .int 60, .int full, .int 4, .int trip, .int 0]
def ruleM (rule : List Int) : MV := .tup (rule.map .int)
@[simp] theorem prof2 (f t : Int) : atM [] (profM f t) (.int 2) = some (.int f) := rfl
@[simp] theorem prof4 (f t : Int) : atM [] (profM f t) (.int 4) = some (.int t) := rfl
theorem role_c (cl : Bool) : eqM [] (roleM cl) (.str "client") = some cl := by cases cl <;> simp [roleM]
theorem role_s (cl : Bool) : eqM [] (roleM cl) (.str "server") = some (!cl) := by cases cl <;> simp [roleM]
theorem two_log (i : Int) : binM .fdiv [] (.int i) (.int 2) = some (.int (i / 2), []) := fdiv_int [] (by decide) (by decide)
variable {hand : Hand} (hh : HandOk hand)
include hh
theorem p_xpath (k : Nat) (cl : Bool) (full trip : Int) (rule : List Int) (l r : Int) (zero : Bool) (theirs : Nat) (ours : Option Nat) (repl : Bool) :
    prun g hand (k + 1) "_law_x_path" [.d (roleM cl), .d (profM full trip), .d (ruleM rule), .d (.tup [.int l, .int r]), .d (.bl zero), .d (.int theirs), .d (optN ours), .d (.bl repl)] =
      some (.own ((newP cl full trip rule l r zero theirs ours repl).xs (.frl (newP cl full trip rule l r zero theirs ours repl).ctl)), []) := by
  rw [prun_d (i := fn_law_x_path) rfl (hh _ _ _ (by decide)) rfl rfl]; unfold fn_law_x_path
  cases zero <;> simp -implicitDefEqProofs -dsimp [role_c, role_s, add_fl, two_log, newP, Pth.xs, Pth.ctl, chalM, nats, ruleM]
theorem p_first (k : Nat) (cl : Bool) (full trip : Int) (rule : List Int) (l r : Int) :
    prun g hand (k + 2) "first_path" [.d (roleM cl), .d (profM full trip), .d (ruleM rule), .d (.int l), .d (.int r)] = some (.d (newP cl full trip rule l r true 0 (some 0) false).fz, []) := by
  rw [prun_d (i := fn_first_path) rfl (hh _ _ _ (by decide)) rfl rfl]; unfold fn_first_path
  have c : ∀ (v : MV) (a b : Int), prun g hand (k + 1) "new_controller" [.d v, .d (.int a), .d (.int b)] = some (.d (.tup [v, .int a, .int b, .bl true, .int 0, .int 0, .int 0, .int 0]), []) := fun v a b => by
    rw [prun_d (i := fn_new_controller) rfl (hh _ _ _ (by decide)) rfl rfl]; unfold fn_new_controller
    simp -implicitDefEqProofs -dsimp
  have e : prun g hand (k + 1) "new_estimate" [.d (.int trip)] = some (.d (.tup [.bl false, .int trip, .int trip, .int (trip / 2), .int trip]), []) := by
    rw [prun_d (i := fn_new_estimate) rfl (hh _ _ _ (by decide)) rfl rfl]; unfold fn_new_estimate
    simp -implicitDefEqProofs -dsimp [two_log]
  unfold profM
  simp -implicitDefEqProofs -dsimp [role_c, c, e, add_lit, newP, Pth.fz, Pth.xs, Pth.ctl, chalM, nats, ruleM, optN]
theorem p_further (k : Nat) (cl : Bool) (full trip : Int) (rule : List Int) (l r : Int) (theirs : Nat) (ours : Option Nat) (repl : Bool) :
    prun g hand (k + 3) "further_path" [.d (roleM cl), .d (profM full trip), .d (ruleM rule), .d (.int l), .d (.int r), .d (.int theirs), .d (optN ours), .d (.bl repl)] = some (.d (newP cl full trip rule l r false theirs ours repl).fz, []) := by
  rw [prun_d (i := fn_further_path) rfl (hh _ _ _ (by decide)) rfl rfl]; unfold fn_further_path
  have f := p_first hh k cl full trip rule l r
  have c := fun (xs : List MV) (n : Nat) (v : MV) (hn : n < xs.length) (hl : xs.length ≤ 1000) => p_changed hh (k + 1) xs n v hn hl
  have c2 := fun (xs : List MV) (v : MV) (h : xs.length = 18) => c xs 2 v (by omega) (by omega)
  have c8 := fun (xs : List MV) (v : MV) (h : xs.length = 18) => c xs 8 v (by omega) (by omega)
  have c10 := fun (xs : List MV) (v : MV) (h : xs.length = 18) => c xs 10 v (by omega) (by omega)
  have c11 := fun (xs : List MV) (v : MV) (h : xs.length = 18) => c xs 11 v (by omega) (by omega)
  have c13 := fun (xs : List MV) (v : MV) (h : xs.length = 18) => c xs 13 v (by omega) (by omega)
  rw [show ((2 : Nat) : Int) = 2 from rfl] at c2
  rw [show ((8 : Nat) : Int) = 8 from rfl] at c8
  rw [show ((10 : Nat) : Int) = 10 from rfl] at c10
  rw [show ((11 : Nat) : Int) = 11 from rfl] at c11
  rw [show ((13 : Nat) : Int) = 13 from rfl] at c13
  simp only [Pth.fz, newP, Pth.xs, Pth.ctl, chalM, optN, nats, List.map_nil] at f
  simp -implicitDefEqProofs -dsimp [f, c2, c8, c10, c11, c13, newP, Pth.fz, Pth.xs, Pth.ctl, chalM, nats]
end K56
namespace K56
open PySem MP
theorem ints_of : ∀ {vs : List MV}, (∀ x ∈ vs, ∃ n : Nat, x = .int n) → ∃ l : List Nat, vs = l.map fun n => MV.int (n : Nat)
  | [], _ => ⟨[], rfl⟩
  | v :: vs, h => by
    obtain ⟨n, rfl⟩ := h v List.mem_cons_self
    obtain ⟨l, e⟩ := ints_of fun x hx => h x (List.mem_cons_of_mem _ hx)
    exact ⟨n :: l, by rw [e]; rfl⟩
theorem five {d : Nat} (h : (d : Int) < 5) : d = 0 ∨ d = 1 ∨ d = 2 ∨ d = 3 ∨ d = 4 := by omega
section
variable (a b c d : Option PV) (e : PEnv) (p : Pth) (C : List MV)
@[simp] theorem set_p2 (x : Bool) : setP (a :: b :: c :: d :: some (.own (p.xs (.frl C))) :: e) 4 (.int 2) (.bl x) = some ⟨.nx, a :: b :: c :: d :: some (.own (({ p with val := x } : Pth).xs (.frl C))) :: e⟩ := rfl
@[simp] theorem set_p12 (x : Bool) : setP (a :: b :: c :: d :: some (.own (p.xs (.frl C))) :: e) 4 (.int 12) (.bl x) = some ⟨.nx, a :: b :: c :: d :: some (.own (({ p with gone := x } : Pth).xs (.frl C))) :: e⟩ := rfl
@[simp] theorem set_p6 (x : Option (Nat × Nat)) : setP (a :: b :: c :: d :: some (.own (p.xs (.frl C))) :: e) 4 (.int 6) (chalM x) = some ⟨.nx, a :: b :: c :: d :: some (.own (({ p with chal := x } : Pth).xs (.frl C))) :: e⟩ := rfl
@[simp] theorem set_p9 (l : List Nat) : setP (a :: b :: c :: d :: some (.own (p.xs (.frl C))) :: e) 4 (.int 9) (.tup (l.map fun n => MV.int (n : Nat))) = some ⟨.nx, a :: b :: c :: d :: some (.own (({ p with resp := l } : Pth).xs (.frl C))) :: e⟩ := rfl
@[simp] theorem set_p14 (x : Bool) (i1 i2 i3 i4 : Int) : setP (a :: b :: c :: d :: some (.own (p.xs (.frl C))) :: e) 4 (.int 14) (.tup [.bl x, .int i1, .int i2, .int i3, .int i4]) = some ⟨.nx, a :: b :: c :: d :: some (.own (({ p with eb := x, e1 := i1, sm := i2, e3 := i3, e4 := i4 } : Pth).xs (.frl C))) :: e⟩ := rfl
@[simp] theorem set_p4 (i1 i2 : Int) (i3 : Int) (x : Bool) : setSlP (a :: b :: c :: d :: some (.own (p.xs (.frl C))) :: e) 4 4 10 [.int i1, .int i2, .non, .int i3, .bl x, .tup []] = some ⟨.nx, a :: b :: c :: d :: some (.own (({ p with rcv := i1, snt := i2, chal := none, tries := i3, due := x, resp := [] } : Pth).xs (.frl C))) :: e⟩ := by
  have l1 : 24 ≤ LIM := by decide
  have l2 : 20 ≤ LIM := by decide
  simp [setSlP, setSlM, Pth.xs, chalM, nats, l1, l2]
@[simp] theorem set_p16 (i1 i2 : Int) : setSlP (a :: b :: c :: d :: some (.own (p.xs (.frl C))) :: e) 4 16 18 [.int i1, .int i2] = some ⟨.nx, a :: b :: c :: d :: some (.own (({ p with under := i1, alarms := i2 } : Pth).xs (.frl C))) :: e⟩ := by
  have l1 : 24 ≤ LIM := by decide
  have l2 : 20 ≤ LIM := by decide
  simp [setSlP, setSlM, Pth.xs, chalM, nats, l1, l2]
@[simp] theorem atp_15 (v : MV) : L2.atI (p.xs v) 15 = some v := rfl
@[simp] theorem atc_2 : L2.atI p.ctl 2 = some (.int p.w2) := rfl
end
variable {hand : Hand} (hh : HandOk hand)
include hh
theorem rule_go {k : Nat} {t : Tp} {Q : PV × List (List MV) → Prop} (K : ∀ (rule : List Int) (t' : Tp), rule.length = 4 → Q (.d (ruleM rule), [tp t'])) : Ok Q .mk (prun g hand (k + 2) "_law_rule" [.own (tp t), .d (.bl false)]) := by
  rw [prun_d (i := fn_law_rule) rfl (hh _ _ _ (by decide)) rfl rfl]; unfold fn_law_rule
  simp -implicitDefEqProofs -dsimp
  refine draw_go hd (hdr hh) (by omega) (by omega) fun d1 t1 q1 => ?_
  simp -implicitDefEqProofs -dsimp
  refine draw_go hd (hdr hh) (by omega) (by omega) fun d2 t2 q2 => ?_
  simp -implicitDefEqProofs -dsimp
  refine draw_go hd (hdr hh) (by omega) (by omega) fun d3 t3 q3 => ?_
  simp -implicitDefEqProofs -dsimp
  refine draw_go hd (hdr hh) (by omega) (by omega) fun d4 t4 q4 => ?_
  simp -implicitDefEqProofs -dsimp
  refine draw_go hd (hdr hh) (by omega) (by omega) fun d5 t5 q5 => ?_
  have e : ∃ n : Int, L2.atI [.int (1 + (d1 : Int)), .int 0, .int d2, .int d3, .int d4] (d5 : Int) = some (MV.int n) := by
    rcases five q5 with rfl | rfl | rfl | rfl | rfl <;> exact ⟨_, by simp; rfl⟩
  obtain ⟨n, e⟩ := e
  simp -implicitDefEqProofs -dsimp [e]
  refine draw_go hd (hdr hh) (by omega) (by omega) fun d6 t6 q6 => ?_
  simp -implicitDefEqProofs -dsimp
  refine draw_go hd (hdr hh) (by omega) (by omega) fun d7 t7 q7 => ?_
  simp -implicitDefEqProofs -dsimp
  refine draw_go hd (hdr hh) (by omega) (by omega) fun d8 t8 q8 => ?_
  have e' : ∃ n : Int, L2.atI [.int 0, .int 0, .int 0, .int (1 + (d6 : Int)), .int (1 + (d7 : Int))] (d8 : Int) = some (MV.int n) := by
    rcases five q8 with rfl | rfl | rfl | rfl | rfl <;> exact ⟨_, by simp; rfl⟩
  obtain ⟨n', e'⟩ := e'
  simp -implicitDefEqProofs -dsimp [e']
  refine draw_go hd (hdr hh) (by omega) (by omega) fun d9 t9 q9 => ?_
  simp -implicitDefEqProofs -dsimp
  exact K [1 + (d9 : Int), n, 1 + (d1 : Int), n'] t9 rfl
theorem some_path_go {k : Nat} {t : Tp} (full trip : Int) (rule : List Int) (j : Nat) {Q : PV × List (List MV) → Prop} (K : ∀ (p : Pth) (t' : Tp), p.rule = rule → p.resp.length ≤ 5 → Q (.d p.lx, [tp t'])) : Ok Q .mk (prun g hand (k + 2) "_law_some_path" [.own (tp t), .d (profM full trip), .d (ruleM rule), .d (.int (j : Nat))]) := by
  rw [prun_d (i := fn_law_some_path) rfl (hh _ _ _ (by decide)) rfl rfl]; unfold fn_law_some_path
  simp -implicitDefEqProofs -dsimp
  refine draw_go hd (hdr hh) (by omega) (by omega) fun d1 t1 q1 => ?_
  have e : ∃ cl : Bool, L2.atI [.str "client", .str "server"] (d1 : Int) = some (roleM cl) := by
    rcases (by omega : d1 = 0 ∨ d1 = 1) with rfl | rfl
    · exact ⟨true, by simp [roleM]⟩
    · exact ⟨false, by simp [roleM]⟩
  obtain ⟨cl, e⟩ := e
  simp -implicitDefEqProofs -dsimp [e]
  refine draw_go hd (hdr hh) (by omega) (by omega) fun d2 t2 q2 => ?_
  have xp := fun (l r : Int) (zero repl : Bool) => p_xpath hh k cl full trip rule l r zero j (some j) repl
  simp only [optN] at xp
  simp -implicitDefEqProofs -dsimp [xp]
  generalize hp0 : newP cl full trip rule _ _ _ _ _ _ = p0
  have hr0 : p0.rule = rule := by rw [← hp0]; rfl
  have hs0 : p0.resp.length ≤ 5 := by rw [← hp0]; exact Nat.zero_le _
  refine draw_go hd (hdr hh) (by omega) (by omega) fun d3 t3 q3 => ?_
  simp -implicitDefEqProofs -dsimp
  refine draw_go hd (hdr hh) (by omega) (by omega) fun d4 t4 q4 => ?_
  simp -implicitDefEqProofs -dsimp
  refine draw_go hd (hdr hh) (by omega) (by omega) fun d5 t5 q5 => ?_
  simp -implicitDefEqProofs -dsimp
  refine draw_go hd (hdr hh) (by omega) (by omega) fun d6 t6 q6 => ?_
  simp -implicitDefEqProofs -dsimp
  refine draw_go hd (hdr hh) (by omega) (by omega) fun d7 t7 q7 => ?_
  simp -implicitDefEqProofs -dsimp
  refine draw_go hd (hdr hh) (by omega) (by omega) fun d8 t8 q8 => ?_
  simp -implicitDefEqProofs -dsimp
  refine draw_go hd (hdr hh) (by omega) (by omega) fun d9 t9 q9 => ?_
  simp -implicitDefEqProofs -dsimp
  refine draw_go hd (hdr hh) (by omega) (by omega) fun d10 t10 q10 => ?_
  have e2 : ∃ c : Option (Nat × Nat), L2.atI [.non, .tup [.int (d8 : Int), .int (50 + (d9 : Int))]] (d10 : Int) = some (chalM c) := by
    rcases (by omega : d10 = 0 ∨ d10 = 1) with rfl | rfl
    · exact ⟨none, by simp [chalM]⟩
    · exact ⟨some (d8, 50 + d9), by simp [chalM, prM]⟩
  obtain ⟨c, e2⟩ := e2
  simp -implicitDefEqProofs -dsimp [e2]
  refine draw_go hd (hdr hh) (by omega) (by omega) fun d11 t11 q11 => ?_
  have r5 := rng1_items (n := d11) (by omega) []
  simp -implicitDefEqProofs -dsimp [r5]
  refine comp_dr (fun x => ∃ n : Nat, x = .int n) (fun x _ t => ?_) fun vs t12 env' hl hvs he => ?_
  · simp -implicitDefEqProofs -dsimp
    refine draw_go hd (hdr hh) (by omega) (by omega) fun d2 t3 e2 => ?_
    simp -implicitDefEqProofs -dsimp
    exact ⟨⟨d2, rfl⟩, t3, rfl⟩
  obtain ⟨l, rfl⟩ := ints_of hvs
  simp at hl
  simp -implicitDefEqProofs -dsimp [he, restP_1]
  refine draw_go hd (hdr hh) (by omega) (by omega) fun d13 t13 q13 => ?_
  simp -implicitDefEqProofs -dsimp
  refine draw_go hd (hdr hh) (by omega) (by omega) fun d14 t14 q14 => ?_
  have e3 : ∃ i : Int, L2.atI [.int 3, .int 3, .int 7, .int 20] (d14 : Int) = some (MV.int i) := by
    rcases (by omega : d14 = 0 ∨ d14 = 1 ∨ d14 = 2 ∨ d14 = 3) with rfl | rfl | rfl | rfl <;> exact ⟨_, by simp; rfl⟩
  obtain ⟨i, e3⟩ := e3
  simp -implicitDefEqProofs -dsimp [e3]
  refine draw_go hd (hdr hh) (by omega) (by omega) fun d15 t15 q15 => ?_
  simp -implicitDefEqProofs -dsimp
  refine draw_go hd (hdr hh) (by omega) (by omega) fun d16 t16 q16 => ?_
  have e4 : ∀ w : Int, ∃ i : Int, L2.atI [.int 0, .int w] (d16 : Int) = some (MV.int i) := fun w => by
    rcases (by omega : d16 = 0 ∨ d16 = 1) with rfl | rfl <;> exact ⟨_, by simp; rfl⟩
  obtain ⟨i2, e4⟩ := e4 (p0.w2 - full + d15 - 1)
  simp -implicitDefEqProofs -dsimp [e4]
  refine draw_go hd (hdr hh) (by omega) (by omega) fun d17 t17 q17 => ?_
  simp -implicitDefEqProofs -dsimp
  refine K ({ p0 with val := _, rcv := _, snt := _, chal := _, tries := _, due := _, resp := l, gone := _, eb := _, e1 := _, sm := _, e3 := _, e4 := _, under := _, alarms := _ } : Pth) t17 hr0 ?_
  show l.length ≤ 5
  omega
end K56
namespace K56
open PySem MP
structure Rk where
  a : Bool
  b : Bool
  c : Bool
  s : Int
  n : Nat
def Rk.mv (r : Rk) : MV := .tup [.bl r.a, .bl r.b, .bl r.c, .int r.s, .int r.n]
def Rk.d (r : Rk) : PyData := .tuple [.bool r.a, .bool r.b, .bool r.c, .int r.s, .int r.n]
theorem toD_rk (r : Rk) : toD r.mv = some r.d := by simp [Rk.mv, Rk.d, toD, toDs]
theorem ofD_rk (r : Rk) : ofD r.d = r.mv := by simp [Rk.mv, Rk.d, ofD, ofDs]
theorem toDs_rk : ∀ rs : List Rk, toDs (rs.map Rk.mv) = some (rs.map Rk.d)
  | [] => by simp [toDs]
  | r :: rs => by simp [toDs, toD_rk, toDs_rk rs]
theorem alike_rk (r s : Rk) : PySem.W.alike r.d s.d = true := by
  simp [Rk.d, PySem.W.alike, PySem.W.alikeAll]
theorem minD_mem : ∀ (rs : List Rk) (r : Rk), ∃ s : Rk, PySem.W.minD r.d (rs.map Rk.d) = s.d
  | [], r => ⟨r, rfl⟩
  | q :: rs, r => by
    unfold PySem.W.minD
    simp only [List.map_cons, List.foldl_cons]
    split
    · exact minD_mem rs q
    · exact minD_mem rs r
theorem depth_rk : ∀ rs : List Rk, PyData.depthAll (rs.map Rk.d) ≤ 3
  | [] => by simp [PyData.depthAll]
  | r :: rs => by
    have := depth_rk rs
    simp only [List.map_cons, PyData.depthAll]
    simp [Rk.d, PyData.depth, PyData.depthAll]
    omega
theorem minDM_rk (h : MH) (rs : List Rk) (hr : rs ≠ []) : ∃ s : Rk, minDM h (rs.map Rk.mv) = some (s.mv, h) := by
  cases rs with
  | nil => exact absurd rfl hr
  | cons r rs =>
    obtain ⟨s, e⟩ := minD_mem rs r
    refine ⟨s, ?_⟩
    unfold minDM
    rw [toDs_rk]
    simp only [Option.bind_some, List.map_cons]
    have d := depth_rk (r :: rs)
    simp only [List.map_cons] at d
    have al : alikeB (r.d :: rs.map Rk.d) = true := by
      simp only [alikeB, List.all_eq_true]
      intro x hx y hy
      rw [← List.map_cons] at hx hy
      obtain ⟨x, _, rfl⟩ := List.mem_map.mp hx
      obtain ⟨y, _, rfl⟩ := List.mem_map.mp hy
      exact alike_rk x y
    have an : (r.d :: rs.map Rk.d).any noneB = false := by
      rw [← List.map_cons, List.any_eq_false]
      intro x hx
      obtain ⟨x, _, rfl⟩ := List.mem_map.mp hx
      simp [Rk.d, noneB]
    rw [if_pos ⟨al, an, by omega⟩, e, ofD_rk]
theorem ints_rk (rs : List Rk) (hr : rs ≠ []) : intsM (rs.map Rk.mv) = none := by
  cases rs with
  | nil => exact absurd rfl hr
  | cons r rs => simp [intsM, Rk.mv]
theorem min_rk (h : MH) (v : MV) (rs : List Rk) (hr : rs ≠ []) (hv : lstM h v = some (rs.map Rk.mv)) : ∃ s : Rk, minM h [v] = some (s.mv, h) := by
  obtain ⟨s, e⟩ := minDM_rk h rs hr
  refine ⟨s, ?_⟩
  unfold minM
  simp only [hv, Option.bind_some, ints_rk rs hr, e]
/-- ranks -/
def rank (p : Pth) (full : Int) (j : Nat) : Rk := ⟨!(p.val && decide (p.alarms < 3)), !p.val, decide (p.w2 < p.under + full), p.sm, j⟩
def rks (ps : List Pth) (full : Int) (n : Nat) : List Rk := (List.range n).flatMap fun j => match ps[j]? with
  | some p => if p.gone = true then [] else [rank p full j]
  | none => []
theorem rks_succ (ps : List Pth) (full : Int) (n : Nat) (p : Pth) (hp : ps[n]? = some p) : rks ps full (n + 1) = rks ps full n ++ (if p.gone = true then [] else [rank p full n]) := by
  unfold rks
  rw [List.range_succ, List.flatMap_append]
  simp [hp]
theorem rks_len (ps : List Pth) (full : Int) : ∀ n, (rks ps full n).length ≤ n
  | 0 => by simp [rks]
  | n + 1 => by
    cases hp : ps[n]? with
    | none =>
      have : rks ps full (n + 1) = rks ps full n := by unfold rks; rw [List.range_succ, List.flatMap_append]; simp [hp]
      rw [this]
      have := rks_len ps full n
      omega
    | some p =>
      rw [rks_succ ps full n p hp]
      have := rks_len ps full n
      split <;> simp <;> omega
/-- the answer of both -/
def bestP (r : MV) : MV := match r with
  | .tup [_, _, _, _, j] => j
  | _ => .non
/-- the law's list at door 5, with the paths as data -/
def tv (full : Int) (v : MV) : MV := .frl [.int 0, .tup [.int 0, .int 0, .int full], .int 0, .int 0, .int 0, .int 0, .int 0, .int 0, v]
section
variable (p : Pth)
@[simp] theorem atf {xs : List MV} {i : Int} : atM [] (.tup xs) (.int i) = L2.atI xs i := rfl
@[simp] theorem at_fz {i : Int} : atM [] p.fz (.int i) = L2.atI (p.xs (.tup p.ctl)) i := rfl
@[simp] theorem at_lx {i : Int} : atM [] p.lx (.int i) = L2.atI (p.xs (.frl p.ctl)) i := rfl
@[simp] theorem xs_2 (v : MV) : L2.atI (p.xs v) 2 = some (.bl p.val) := rfl
@[simp] theorem xs_3 (v : MV) : L2.atI (p.xs v) 3 = some (.bl p.lim) := rfl
@[simp] theorem xs_4 (v : MV) : L2.atI (p.xs v) 4 = some (.int p.rcv) := rfl
@[simp] theorem xs_5 (v : MV) : L2.atI (p.xs v) 5 = some (.int p.snt) := rfl
@[simp] theorem xs_6 (v : MV) : L2.atI (p.xs v) 6 = some (chalM p.chal) := rfl
@[simp] theorem xs_7 (v : MV) : L2.atI (p.xs v) 7 = some (.int p.tries) := rfl
@[simp] theorem xs_9 (v : MV) : L2.atI (p.xs v) 9 = some (nats p.resp) := rfl
@[simp] theorem xs_10 (v : MV) : L2.atI (p.xs v) 10 = some (.int p.theirs) := rfl
@[simp] theorem xs_12 (v : MV) : L2.atI (p.xs v) 12 = some (.bl p.gone) := rfl
@[simp] theorem xs_14 (v : MV) : L2.atI (p.xs v) 14 = some (.tup [.bl p.eb, .int p.e1, .int p.sm, .int p.e3, .int p.e4]) := rfl
@[simp] theorem xs_16 (v : MV) : L2.atI (p.xs v) 16 = some (.int p.under) := rfl
@[simp] theorem xs_17 (v : MV) : L2.atI (p.xs v) 17 = some (.int p.alarms) := rfl
end
variable {hand : Hand} (hh : HandOk hand)
include hh
theorem p_used (k : Nat) (p : Pth) : prun g hand (k + 1) "can_be_used" [.d p.fz] = some (.d (.bl (p.val && (!p.gone && decide (p.alarms < 3)))), []) := by
  rw [prun_d (i := fn_can_be_used) rfl (hh _ _ _ (by decide)) rfl rfl]; unfold fn_can_be_used
  cases h1 : p.val <;> cases h2 : p.gone <;> simp -implicitDefEqProofs -dsimp [h1, h2]
theorem p_free (k : Nat) (p : Pth) (full : Int) : prun g hand (k + 1) "is_free" [.d p.fz, .d (.int full)] = some (.d (.bl (decide (p.under + full ≤ p.w2))), []) := by
  rw [prun_d (i := fn_is_free) rfl (hh _ _ _ (by decide)) rfl rfl]; unfold fn_is_free
  simp -implicitDefEqProofs -dsimp
theorem p_allow (k : Nat) (p : Pth) : prun g hand (k + 1) "allowance" [.d p.fz] = some (.d (if p.val = true ∨ p.lim = false then .non else .int (mx 0 (3 * p.rcv - p.snt))), []) := by
  rw [prun_d (i := fn_allowance) rfl (hh _ _ _ (by decide)) rfl rfl]; unfold fn_allowance
  cases h1 : p.val <;> cases h2 : p.lim <;> simp -implicitDefEqProofs -dsimp [h1, h2]
theorem p_resp (k : Nat) (p : Pth) (v : Nat) : prun g hand (k + 2) "take_response" [.d p.fz, .d (.int v)] = some (.d (match p.chal with | some c => if c.1 = v then ({ p with val := true, chal := none, due := false } : Pth).fz else p.fz | none => p.fz), []) := by
  rw [prun_d (i := fn_take_response) rfl (hh _ _ _ (by decide)) rfl rfl]; unfold fn_take_response
  cases h1 : p.chal with
  | none => simp -implicitDefEqProofs -dsimp [h1, chalM]
  | some c =>
    by_cases h2 : c.1 = v
    · have h2' : (c.1 : Int) = v := by omega
      have c2 := fun (xs : List MV) (v : MV) (h : xs.length = 18) => p_changed hh k xs 2 v (by omega) (by omega)
      have c6 := fun (xs : List MV) (v : MV) (h : xs.length = 18) => p_changed hh k xs 6 v (by omega) (by omega)
      have c8 := fun (xs : List MV) (v : MV) (h : xs.length = 18) => p_changed hh k xs 8 v (by omega) (by omega)
      rw [show ((2 : Nat) : Int) = 2 from rfl] at c2
      rw [show ((6 : Nat) : Int) = 6 from rfl] at c6
      rw [show ((8 : Nat) : Int) = 8 from rfl] at c8
      simp -implicitDefEqProofs -dsimp [h1, chalM, prM, h2']
      simp -implicitDefEqProofs -dsimp [h2, c2, c6, c8, Pth.fz, Pth.xs, Pth.ctl, chalM]
    · have h2' : ¬ (c.1 : Int) = v := by omega
      simp -implicitDefEqProofs -dsimp [h1, chalM, prM, h2', h2]
omit hh in
theorem cut_neg (xs : List MV) (n : Nat) (hn : 0 < n) : cutM xs (some (-(n : Int))) none = xs.drop (xs.length - n) := by
  unfold cutM
  rw [HT.sIx_none]
  have : HT.sIx xs.length 0 (some (-(n : Int))) = xs.length - n := by
    show (if (-(n : Int)) < 0 then (-(n : Int) + (xs.length : Int)).toNat else min (-(n : Int)).toNat xs.length) = _
    rw [if_pos (by omega)]
    omega
  rw [this, List.take_of_length_le (by simp)]
def lastN (xs : List Nat) (n : Nat) : List Nat := xs.drop (xs.length - n)
theorem p_chal (k : Nat) (p : Pth) (v : Nat) (hr : p.resp.length ≤ 5) : prun g hand (k + 2) "take_challenge" [.d p.fz, .d (.int v)] = some (.d ({ p with resp := lastN (p.resp ++ [v]) 4 } : Pth).fz, []) := by
  rw [prun_d (i := fn_take_challenge) rfl (hh _ _ _ (by decide)) rfl rfl]; unfold fn_take_challenge
  have c9 := fun (xs : List MV) (v : MV) (h : xs.length = 18) => p_changed hh k xs 9 v (by omega) (by omega)
  rw [show ((9 : Nat) : Int) = 9 from rfl] at c9
  have a1 := add_tup [] (a := p.resp.map fun i => MV.int (i : Nat)) (b := [.int (v : Nat)]) (by show _ ≤ 16777216; simp; omega)
  have e1 : cutM ((p.resp.map fun i => MV.int (i : Nat)) ++ [.int (v : Nat)]) (some (-4)) none = (lastN (p.resp ++ [v]) 4).map fun i => MV.int (i : Nat) := by
    have := cut_neg ((p.resp.map fun i => MV.int (i : Nat)) ++ [.int (v : Nat)]) 4 (by omega)
    rw [show (-((4 : Nat) : Int)) = -4 from rfl] at this
    rw [this]; simp [lastN, List.map_drop]
  simp -implicitDefEqProofs -dsimp [nats, a1]
  simp -implicitDefEqProofs -dsimp [e1, c9, Pth.fz, Pth.xs, Pth.ctl, nats]
omit hh in
theorem pl_fz (p : Pth) (h1 : p.rule.length ≤ 1000) (h2 : p.resp.length ≤ 1000) : pl 3 p.fz := by
  simp only [Pth.fz, pl]
  refine ⟨by simp [Pth.xs], fun x hx => ?_⟩
  simp only [Pth.xs, List.mem_cons, List.not_mem_nil, or_false] at hx
  rcases hx with rfl | rfl | rfl | rfl | rfl | rfl | rfl | rfl | rfl | rfl | rfl | rfl | rfl | rfl | rfl | rfl | rfl | rfl
  case inr.inr.inr.inr.inr.inr.inl => cases p.chal <;> simp [chalM, prM, pl]
  case inr.inr.inr.inr.inr.inr.inr.inr.inr.inl => simp [nats, pl]; omega
  case inr.inr.inr.inr.inr.inr.inr.inr.inr.inr.inr.inl => cases p.ours <;> simp [optN, pl]
  case inr.inr.inr.inr.inr.inr.inr.inr.inr.inr.inr.inr.inr.inr.inr.inl => simp [Pth.ctl, pl]; omega
  all_goals simp [pl]
noncomputable def mainV (ps : List Pth) (full : Int) : MV := if (rks ps full ps.length).isEmpty = true then .non else match minM [] [.frl ((rks ps full ps.length).map Rk.mv)] with
  | some (v, _) => bestP v
  | none => .non
omit hh in
theorem main_cases (ps : List Pth) (full : Int) : (rks ps full ps.length = [] ∧ mainV ps full = .non) ∨ ((rks ps full ps.length).isEmpty = false ∧ ∃ s : Rk, minM [] [.frl ((rks ps full ps.length).map Rk.mv)] = some (s.mv, []) ∧ mainV ps full = .int s.n) := by
  unfold mainV
  by_cases h : rks ps full ps.length = []
  · left; exact ⟨h, by rw [h]; rfl⟩
  · right
    obtain ⟨s, e⟩ := min_rk [] (.frl ((rks ps full ps.length).map Rk.mv)) _ h rfl
    refine ⟨by simpa using h, s, e, ?_⟩
    rw [if_neg (by simpa using h), e]
    rfl
omit hh in
@[simp] theorem bi_min1 (v : MV) : biM .min [] [v] = minM [] [v] := rfl
theorem p_main (k : Nat) (ps : List Pth) (full : Int) (hz : ps.length ≤ 100) : prun g hand (k + 2) "main_of" [.d (.tup (ps.map Pth.fz)), .d (.int full)] = some (.d (mainV ps full), []) := by
  rw [prun_d (i := fn_main_of) rfl (hh _ _ _ (by decide)) rfl rfl]; unfold fn_main_of
  have c1 := p_used hh k
  have c2 := p_free hh k
  apply eq_of_ok
  simp -implicitDefEqProofs -dsimp
  rw [ps_for _ _ _ _ _ _ _ _ (useV4 _ _ _ _ _)]
  have r1 : itsM .enum [] [.tup (ps.map Pth.fz)] = some ⟨(List.range' 0 ps.length).map fun i => .tup [.int (i : Nat), (ps.map Pth.fz).getD i .non], none⟩ := by
    simp [itsM, enumI, List.range_eq_range']
  simp -implicitDefEqProofs -dsimp [r1]
  refine for_inv (fun its e => ∃ (n m : Nat) (y3 y4 y5 y6 : Option PV), n + m = ps.length ∧ its = ((List.range' n m).map fun i => .tup [.int (i : Nat), (ps.map Pth.fz).getD i .non]) ∧ e = [some (.d (.tup (ps.map Pth.fz))), some (.d (.int full)), some (.own ((rks ps full n).map Rk.mv)), y3, y4, y5, y6])
    ⟨0, ps.length, none, none, none, none, by omega, by simp, rfl⟩ ?_ ?_
  · rintro v vs e ⟨n, m, y3, y4, y5, y6, h1, h2, rfl⟩
    cases m with
    | zero => simp at h2
    | succ m =>
      have hn : n < ps.length := by omega
      have hp : ps[n]? = some ps[n] := List.getElem?_eq_getElem hn
      have rs := rks_succ ps full n _ hp
      rw [List.range'_succ, List.map_cons] at h2
      obtain ⟨rfl, rfl⟩ := List.cons.inj h2
      have eg : (ps.map Pth.fz).getD n .non = ps[n].fz := by simp [hn]
      rw [eg]
      generalize ps[n] = p at *
      have ln := rks_len ps full n
      cases hg : p.gone with
      | true =>
        simp -implicitDefEqProofs -dsimp [hg]
        exact ⟨n + 1, m, _, _, _, _, by omega, rfl, by rw [rs, if_pos hg, List.append_nil]⟩
      | false =>
        simp -implicitDefEqProofs -dsimp [hg, c1, c2, add_lit]
        rw [methP_app _ _ ((rks ps full n).map Rk.mv) (by simp) (by simp; show _ < 16777216; omega)]
        simp -implicitDefEqProofs -dsimp
        have key : (rks ps full (n + 1)).map Rk.mv = (rks ps full n).map Rk.mv ++ [MV.tup [.bl (!p.val || !decide (p.alarms < 3)), .bl !p.val, .bl !decide (p.under + full ≤ p.w2), .int p.sm, .int (n : Nat)]] := by
          rw [rs, if_neg (by simp [hg]), List.map_append]
          simp [Rk.mv, rank]
          rw [← decide_not]
          simp [Int.not_le]
        exact ⟨n + 1, m, _, _, _, _, by omega, rfl, by rw [key]⟩
  · rintro e ⟨n, m, y3, y4, y5, y6, h1, h2, rfl⟩
    have hm : m = 0 := by
      cases m with
      | zero => rfl
      | succ m => simp at h2
    have hn : n = ps.length := by omega
    subst hn
    rcases main_cases ps full with ⟨h3, h4⟩ | ⟨h3, s, h5, h4⟩
    · simp -implicitDefEqProofs -dsimp [h3, h4]
    · simp -implicitDefEqProofs -dsimp [h3, h5, h4, Rk.mv]
end K56
namespace K56
open PySem MP
section
variable (p : Pth)
@[simp] theorem slice_fz (l u : Option Int) : sliceM [] p.fz l u = some (.tup (cutM (p.xs (.tup p.ctl)) l u), []) := rfl
@[simp] theorem cp_2 (v : MV) : cutM (p.xs v) none (some 2) = [.int p.loc, .int p.rem] := rfl
@[simp] theorem cp_36 (v : MV) : cutM (p.xs v) (some 3) (some 6) = [.bl p.lim, .int p.rcv, .int p.snt] := rfl
@[simp] theorem cp_9 (v : MV) : cutM (p.xs v) (some 9) none = [nats p.resp, .int p.theirs, optN p.ours, .bl p.gone, .bl p.repl, .tup [.bl p.eb, .int p.e1, .int p.sm, .int p.e3, .int p.e4], v, .int p.under, .int p.alarms] := rfl
@[simp] theorem cp_u9 (v : MV) : cutM (p.xs v) none (some 9) = [.int p.loc, .int p.rem, .bl p.val, .bl p.lim, .int p.rcv, .int p.snt, chalM p.chal, .int p.tries, .bl p.due] := rfl
@[simp] theorem cp_10 (v : MV) : cutM (p.xs v) (some 10) none = [.int p.theirs, optN p.ours, .bl p.gone, .bl p.repl, .tup [.bl p.eb, .int p.e1, .int p.sm, .int p.e3, .int p.e4], v, .int p.under, .int p.alarms] := rfl
end
theorem mx_comm (a b : Int) : mx a b = mx b a := by unfold mx; split <;> split <;> omega
theorem xs_len (p : Pth) (v : MV) : (p.xs v).length = 18 := rfl
@[simp] theorem fz_7 (p : Pth) : L2.atI (p.xs (.tup p.ctl)) 7 = some (.int p.tries) := rfl
def PsOk (ps : List Pth) : Prop := ps.length ≤ 100 ∧ ∀ p ∈ ps, p.rule.length ≤ 10 ∧ p.resp.length ≤ 5
theorem resp_cut (p : Pth) (v : Nat) (hr : p.resp.length ≤ 5) : cutM ((p.resp.map fun i => MV.int (i : Nat)) ++ [.int (v : Nat)]) (some (-4)) none = (lastN (p.resp ++ [v]) 4).map fun i => MV.int (i : Nat) := by
  have := cut_neg ((p.resp.map fun i => MV.int (i : Nat)) ++ [.int (v : Nat)]) 4 (by omega)
  rw [show (-((4 : Nat) : Int)) = -4 from rfl] at this
  rw [this]; simp [lastN, List.map_drop]
theorem at_ps {ps : List Pth} {j : Nat} (hj : j < ps.length) : L2.atI (ps.map Pth.lx) (j : Int) = some ps[j].lx := by
  rw [atI_get, List.getElem?_map, List.getElem?_eq_getElem hj]; rfl
def unusedV (ps : List Pth) (q : List Pr) : MV := match q.find? (fun q => !hasN (ps.map (·.theirs)) q.1) with
  | some q => .int q.1
  | none => .non
variable {hand : Hand} (hh : HandOk hand)
include hh
theorem ans0D (k : Nat) (ps : List Pth) (j v : Nat) (full : Int) (ids : Ids) (hj : j < ps.length) (ok : PsOk ps) (hn : hand (k + 5) "_law_answers" [.d (.int 0), .d (.frl (ps.map Pth.lx)), .d (.int (j : Nat)), .d (.int (v : Nat)), .d (.int full), .d ids.mv] = none) :
    prun g hand (k + 5) "_law_answers" [.d (.int 0), .d (.frl (ps.map Pth.lx)), .d (.int (j : Nat)), .d (.int (v : Nat)), .d (.int full), .d ids.mv] = some (.d (.bl true), []) := by
  rw [prun_d (i := fn_law_answers) rfl hn rfl rfl]; unfold fn_law_answers
  obtain ⟨o1, o2⟩ := ok.2 _ (List.getElem_mem hj)
  have e1 := at_ps hj
  generalize ps[j] = p at *
  have fz := p_fz hh (k + 1) p
  have a := p_allow hh (k + 3) p
  by_cases h : p.val = true ∨ p.lim = false
  · have s := p_same hand hh 3 .non (by simp [pl]) k
    rw [if_pos h] at a
    rcases h with h | h
    · simp -implicitDefEqProofs -dsimp [e1, fz, a, h, s]
    · cases h' : p.val <;> simp -implicitDefEqProofs -dsimp [e1, fz, a, h, h', s]
  · have s := p_same hand hh 3 (.int (mx 0 (3 * p.rcv - p.snt))) (by simp [pl]) k
    rw [if_neg h] at a
    have h1 : p.val = false := by cases h' : p.val <;> simp_all
    have h2 : p.lim = true := by cases h' : p.lim <;> simp_all
    simp -implicitDefEqProofs -dsimp [e1, fz, a, h1, h2, s, mx_comm _ 0]
theorem ans1D (k : Nat) (ps : List Pth) (j v : Nat) (full : Int) (ids : Ids) (hj : j < ps.length) (ok : PsOk ps) (hn : hand (k + 5) "_law_answers" [.d (.int 1), .d (.frl (ps.map Pth.lx)), .d (.int (j : Nat)), .d (.int (v : Nat)), .d (.int full), .d ids.mv] = none) :
    prun g hand (k + 5) "_law_answers" [.d (.int 1), .d (.frl (ps.map Pth.lx)), .d (.int (j : Nat)), .d (.int (v : Nat)), .d (.int full), .d ids.mv] = some (.d (.bl true), []) := by
  rw [prun_d (i := fn_law_answers) rfl hn rfl rfl]; unfold fn_law_answers
  obtain ⟨o1, o2⟩ := ok.2 _ (List.getElem_mem hj)
  have e1 := at_ps hj
  generalize ps[j] = p at *
  have fz := p_fz hh (k + 1) p
  have a := p_resp hh (k + 2) p v
  cases h1 : p.chal with
  | none =>
    have s := p_same hand hh 3 _ (pl_fz p (by omega) (by omega)) k
    simp only [h1] at a
    simp -implicitDefEqProofs -dsimp [e1, fz, a, h1, s, chalM]
  | some c =>
    simp only [h1] at a
    by_cases h2 : c.1 = v
    · have h2' : (c.1 : Int) = v := by omega
      rw [if_pos h2] at a
      have s := p_same hand hh 3 _ (pl_fz ({ p with val := true, chal := none, due := false } : Pth) (by show p.rule.length ≤ 1000; omega) (by show p.resp.length ≤ 1000; omega)) k
      simp -implicitDefEqProofs -dsimp [e1, fz, a, h1, chalM, prM, h2', add_lit]
      simp only [Pth.fz, Pth.xs, Pth.ctl, chalM] at s
      simp -implicitDefEqProofs -dsimp [s, Pth.fz, Pth.xs, Pth.ctl, chalM]
    · have h2' : ¬ (c.1 : Int) = v := by omega
      have s := p_same hand hh 3 _ (pl_fz p (by omega) (by omega)) k
      rw [if_neg h2] at a
      simp -implicitDefEqProofs -dsimp [e1, fz, a, h1, s, chalM, prM, h2']
theorem ans2D (k : Nat) (ps : List Pth) (j v : Nat) (full : Int) (ids : Ids) (hj : j < ps.length) (ok : PsOk ps) (hn : hand (k + 5) "_law_answers" [.d (.int 2), .d (.frl (ps.map Pth.lx)), .d (.int (j : Nat)), .d (.int (v : Nat)), .d (.int full), .d ids.mv] = none) :
    prun g hand (k + 5) "_law_answers" [.d (.int 2), .d (.frl (ps.map Pth.lx)), .d (.int (j : Nat)), .d (.int (v : Nat)), .d (.int full), .d ids.mv] = some (.d (.bl true), []) := by
  rw [prun_d (i := fn_law_answers) rfl hn rfl rfl]; unfold fn_law_answers
  obtain ⟨o1, o2⟩ := ok.2 _ (List.getElem_mem hj)
  have e1 := at_ps hj
  generalize ps[j] = p at *
  have fz := p_fz hh (k + 1) p
  have a := p_chal hh (k + 2) p v o2
  have a1 := add_tup [] (a := p.resp.map fun i => MV.int (i : Nat)) (b := [.int (v : Nat)]) (by show _ ≤ 16777216; simp; omega)
  have e2 := resp_cut p v o2
  have s := p_same hand hh 3 _ (pl_fz ({ p with resp := lastN (p.resp ++ [v]) 4 } : Pth) (by show p.rule.length ≤ 1000; omega) (by show (lastN (p.resp ++ [v]) 4).length ≤ 1000; simp [lastN]; omega)) k
  simp only [Pth.fz, Pth.xs, Pth.ctl, nats] at s
  simp -implicitDefEqProofs -dsimp [e1, fz, a, nats, a1]
  simp -implicitDefEqProofs -dsimp [e2, add_lit, a1, nats]
  simp -implicitDefEqProofs -dsimp [s, Pth.fz, Pth.xs, Pth.ctl, nats]
theorem ans3D (k : Nat) (ps : List Pth) (j v : Nat) (full : Int) (ids : Ids) (hj : j < ps.length) (ok : PsOk ps) (hn : hand (k + 5) "_law_answers" [.d (.int 3), .d (.frl (ps.map Pth.lx)), .d (.int (j : Nat)), .d (.int (v : Nat)), .d (.int full), .d ids.mv] = none) :
    prun g hand (k + 5) "_law_answers" [.d (.int 3), .d (.frl (ps.map Pth.lx)), .d (.int (j : Nat)), .d (.int (v : Nat)), .d (.int full), .d ids.mv] = some (.d (.bl true), []) := by
  rw [prun_d (i := fn_law_answers) rfl hn rfl rfl]; unfold fn_law_answers
  obtain ⟨o1, o2⟩ := ok.2 _ (List.getElem_mem hj)
  have e1 := at_ps hj
  generalize ps[j] = p at *
  have fz := p_fz hh (k + 1) p
  have a := p_used hh (k + 3) p
  have s := p_same hand hh 3 (.bl (p.val && (!p.gone && decide (p.alarms < 3)))) (by simp [pl]) k
  cases h1 : p.val <;> cases h2 : p.gone <;> simp only [h1, h2, Bool.true_and, Bool.false_and, Bool.not_true, Bool.not_false] at a s <;> simp -implicitDefEqProofs -dsimp [e1, fz, a, h1, h2, s]
theorem ans4D (k : Nat) (ps : List Pth) (j v : Nat) (full : Int) (ids : Ids) (hj : j < ps.length) (ok : PsOk ps) (hn : hand (k + 5) "_law_answers" [.d (.int 4), .d (.frl (ps.map Pth.lx)), .d (.int (j : Nat)), .d (.int (v : Nat)), .d (.int full), .d ids.mv] = none) :
    prun g hand (k + 5) "_law_answers" [.d (.int 4), .d (.frl (ps.map Pth.lx)), .d (.int (j : Nat)), .d (.int (v : Nat)), .d (.int full), .d ids.mv] = some (.d (.bl true), []) := by
  rw [prun_d (i := fn_law_answers) rfl hn rfl rfl]; unfold fn_law_answers
  obtain ⟨o1, o2⟩ := ok.2 _ (List.getElem_mem hj)
  have e1 := at_ps hj
  generalize ps[j] = p at *
  have fz := p_fz hh (k + 1) p
  have a := p_free hh (k + 3) p full
  have s := p_same hand hh 3 (.bl (decide (p.under + full ≤ p.w2))) (by simp [pl]) k
  simp -implicitDefEqProofs -dsimp [e1, fz, a, s]
theorem ans0O (k : Nat) (ps : List Pth) (j v : Nat) (full : Int) (ids : Ids) (hj : j < ps.length) (ok : PsOk ps) (hn : hand (k + 5) "_law_answers" [.d (.int 0), .own (ps.map Pth.lx), .d (.int (j : Nat)), .d (.int (v : Nat)), .d (.int full), .d ids.mv] = none) :
    prun g hand (k + 5) "_law_answers" [.d (.int 0), .own (ps.map Pth.lx), .d (.int (j : Nat)), .d (.int (v : Nat)), .d (.int full), .d ids.mv] = some (.d (.bl true), [ps.map Pth.lx]) := by
  rw [prun_d (i := fn_law_answers) rfl hn rfl rfl]; unfold fn_law_answers
  obtain ⟨o1, o2⟩ := ok.2 _ (List.getElem_mem hj)
  have e1 := at_ps hj
  generalize ps[j] = p at *
  have fz := p_fz hh (k + 1) p
  have a := p_allow hh (k + 3) p
  by_cases h : p.val = true ∨ p.lim = false
  · have s := p_same hand hh 3 .non (by simp [pl]) k
    rw [if_pos h] at a
    rcases h with h | h
    · simp -implicitDefEqProofs -dsimp [e1, fz, a, h, s]
    · cases h' : p.val <;> simp -implicitDefEqProofs -dsimp [e1, fz, a, h, h', s]
  · have s := p_same hand hh 3 (.int (mx 0 (3 * p.rcv - p.snt))) (by simp [pl]) k
    rw [if_neg h] at a
    have h1 : p.val = false := by cases h' : p.val <;> simp_all
    have h2 : p.lim = true := by cases h' : p.lim <;> simp_all
    simp -implicitDefEqProofs -dsimp [e1, fz, a, h1, h2, s, mx_comm _ 0]
theorem ans1O (k : Nat) (ps : List Pth) (j v : Nat) (full : Int) (ids : Ids) (hj : j < ps.length) (ok : PsOk ps) (hn : hand (k + 5) "_law_answers" [.d (.int 1), .own (ps.map Pth.lx), .d (.int (j : Nat)), .d (.int (v : Nat)), .d (.int full), .d ids.mv] = none) :
    prun g hand (k + 5) "_law_answers" [.d (.int 1), .own (ps.map Pth.lx), .d (.int (j : Nat)), .d (.int (v : Nat)), .d (.int full), .d ids.mv] = some (.d (.bl true), [ps.map Pth.lx]) := by
  rw [prun_d (i := fn_law_answers) rfl hn rfl rfl]; unfold fn_law_answers
  obtain ⟨o1, o2⟩ := ok.2 _ (List.getElem_mem hj)
  have e1 := at_ps hj
  generalize ps[j] = p at *
  have fz := p_fz hh (k + 1) p
  have a := p_resp hh (k + 2) p v
  cases h1 : p.chal with
  | none =>
    have s := p_same hand hh 3 _ (pl_fz p (by omega) (by omega)) k
    simp only [h1] at a
    simp -implicitDefEqProofs -dsimp [e1, fz, a, h1, s, chalM]
  | some c =>
    simp only [h1] at a
    by_cases h2 : c.1 = v
    · have h2' : (c.1 : Int) = v := by omega
      rw [if_pos h2] at a
      have s := p_same hand hh 3 _ (pl_fz ({ p with val := true, chal := none, due := false } : Pth) (by show p.rule.length ≤ 1000; omega) (by show p.resp.length ≤ 1000; omega)) k
      simp -implicitDefEqProofs -dsimp [e1, fz, a, h1, chalM, prM, h2', add_lit]
      simp only [Pth.fz, Pth.xs, Pth.ctl, chalM] at s
      simp -implicitDefEqProofs -dsimp [s, Pth.fz, Pth.xs, Pth.ctl, chalM]
    · have h2' : ¬ (c.1 : Int) = v := by omega
      have s := p_same hand hh 3 _ (pl_fz p (by omega) (by omega)) k
      rw [if_neg h2] at a
      simp -implicitDefEqProofs -dsimp [e1, fz, a, h1, s, chalM, prM, h2']
theorem ans2O (k : Nat) (ps : List Pth) (j v : Nat) (full : Int) (ids : Ids) (hj : j < ps.length) (ok : PsOk ps) (hn : hand (k + 5) "_law_answers" [.d (.int 2), .own (ps.map Pth.lx), .d (.int (j : Nat)), .d (.int (v : Nat)), .d (.int full), .d ids.mv] = none) :
    prun g hand (k + 5) "_law_answers" [.d (.int 2), .own (ps.map Pth.lx), .d (.int (j : Nat)), .d (.int (v : Nat)), .d (.int full), .d ids.mv] = some (.d (.bl true), [ps.map Pth.lx]) := by
  rw [prun_d (i := fn_law_answers) rfl hn rfl rfl]; unfold fn_law_answers
  obtain ⟨o1, o2⟩ := ok.2 _ (List.getElem_mem hj)
  have e1 := at_ps hj
  generalize ps[j] = p at *
  have fz := p_fz hh (k + 1) p
  have a := p_chal hh (k + 2) p v o2
  have a1 := add_tup [] (a := p.resp.map fun i => MV.int (i : Nat)) (b := [.int (v : Nat)]) (by show _ ≤ 16777216; simp; omega)
  have e2 := resp_cut p v o2
  have s := p_same hand hh 3 _ (pl_fz ({ p with resp := lastN (p.resp ++ [v]) 4 } : Pth) (by show p.rule.length ≤ 1000; omega) (by show (lastN (p.resp ++ [v]) 4).length ≤ 1000; simp [lastN]; omega)) k
  simp only [Pth.fz, Pth.xs, Pth.ctl, nats] at s
  simp -implicitDefEqProofs -dsimp [e1, fz, a, nats, a1]
  simp -implicitDefEqProofs -dsimp [e2, add_lit, a1, nats]
  simp -implicitDefEqProofs -dsimp [s, Pth.fz, Pth.xs, Pth.ctl, nats]
theorem ans3O (k : Nat) (ps : List Pth) (j v : Nat) (full : Int) (ids : Ids) (hj : j < ps.length) (ok : PsOk ps) (hn : hand (k + 5) "_law_answers" [.d (.int 3), .own (ps.map Pth.lx), .d (.int (j : Nat)), .d (.int (v : Nat)), .d (.int full), .d ids.mv] = none) :
    prun g hand (k + 5) "_law_answers" [.d (.int 3), .own (ps.map Pth.lx), .d (.int (j : Nat)), .d (.int (v : Nat)), .d (.int full), .d ids.mv] = some (.d (.bl true), [ps.map Pth.lx]) := by
  rw [prun_d (i := fn_law_answers) rfl hn rfl rfl]; unfold fn_law_answers
  obtain ⟨o1, o2⟩ := ok.2 _ (List.getElem_mem hj)
  have e1 := at_ps hj
  generalize ps[j] = p at *
  have fz := p_fz hh (k + 1) p
  have a := p_used hh (k + 3) p
  have s := p_same hand hh 3 (.bl (p.val && (!p.gone && decide (p.alarms < 3)))) (by simp [pl]) k
  cases h1 : p.val <;> cases h2 : p.gone <;> simp only [h1, h2, Bool.true_and, Bool.false_and, Bool.not_true, Bool.not_false] at a s <;> simp -implicitDefEqProofs -dsimp [e1, fz, a, h1, h2, s]
theorem ans4O (k : Nat) (ps : List Pth) (j v : Nat) (full : Int) (ids : Ids) (hj : j < ps.length) (ok : PsOk ps) (hn : hand (k + 5) "_law_answers" [.d (.int 4), .own (ps.map Pth.lx), .d (.int (j : Nat)), .d (.int (v : Nat)), .d (.int full), .d ids.mv] = none) :
    prun g hand (k + 5) "_law_answers" [.d (.int 4), .own (ps.map Pth.lx), .d (.int (j : Nat)), .d (.int (v : Nat)), .d (.int full), .d ids.mv] = some (.d (.bl true), [ps.map Pth.lx]) := by
  rw [prun_d (i := fn_law_answers) rfl hn rfl rfl]; unfold fn_law_answers
  obtain ⟨o1, o2⟩ := ok.2 _ (List.getElem_mem hj)
  have e1 := at_ps hj
  generalize ps[j] = p at *
  have fz := p_fz hh (k + 1) p
  have a := p_free hh (k + 3) p full
  have s := p_same hand hh 3 (.bl (decide (p.under + full ≤ p.w2))) (by simp [pl]) k
  simp -implicitDefEqProofs -dsimp [e1, fz, a, s]
end K56
namespace K56
open PySem MP
theorem tv_8 (full : Int) (v : MV) : L2.atI [.int 0, .tup [.int 0, .int 0, .int full], .int 0, .int 0, .int 0, .int 0, .int 0, .int 0, v] 8 = some v := rfl
theorem tv_1 (full : Int) (v : MV) : L2.atI [.int 0, .tup [.int 0, .int 0, .int full], .int 0, .int 0, .int 0, .int 0, .int 0, .int 0, v] 1 = some (.tup [.int 0, .int 0, .int full]) := rfl
theorem key_rank (p : Pth) (full : Int) (ps : List Pth) (n : Nat) (rs : rks ps full (n + 1) = rks ps full n ++ if p.gone = true then [] else [rank p full n]) (hg : p.gone = false) :
    (rks ps full (n + 1)).map Rk.mv = (rks ps full n).map Rk.mv ++ [MV.tup [.bl (!p.val || !decide (p.alarms < 3)), .bl !p.val, .bl !decide (p.under + full ≤ p.w2), .int p.sm, .int (n : Nat)]] := by
  rw [rs, if_neg (by simp [hg]), List.map_append]
  simp [Rk.mv, rank]
  rw [← decide_not]
  simp [Int.not_le]
theorem pl_main (ps : List Pth) (full : Int) : pl 3 (mainV ps full) := by
  rcases main_cases ps full with ⟨_, h⟩ | ⟨_, s, _, h⟩ <;> rw [h] <;> simp [pl]
theorem pl_un (ps : List Pth) (q : List Pr) : pl 3 (unusedV ps q) := by
  unfold unusedV
  split <;> simp [pl]
variable {hand : Hand} (hh : HandOk hand)
include hh
theorem p_xmain (k : Nat) (ps : List Pth) (full : Int) (hz : ps.length ≤ 100) : prun g hand (k + 1) "_law_x_main" [.d (tv full (.frl (ps.map Pth.lx)))] = some (.d (mainV ps full), []) := by
  rw [prun_d (i := fn_law_x_main) rfl (hh _ _ _ (by decide)) rfl rfl]; unfold fn_law_x_main
  apply eq_of_ok
  have r1 : itsM .rng1 [] [.int ps.length] = some ⟨(List.range' 0 ps.length).map fun i => .int (i : Nat), none⟩ := by
    rw [rng1_items (by omega), List.range_eq_range']
  simp -implicitDefEqProofs -dsimp [tv, tv_1, tv_8]
  rw [ps_for _ _ _ _ _ _ _ _ rfl]
  simp -implicitDefEqProofs -dsimp [tv_8, r1]
  refine for_inv (fun its e => ∃ (n m : Nat) (y3 y4 : Option PV), n + m = ps.length ∧ its = ((List.range' n m).map fun i => .int (i : Nat)) ∧ e = [some (.d (tv full (.frl (ps.map Pth.lx)))), some (.d (.int full)), some (.own ((rks ps full n).map Rk.mv)), y3, y4])
    ⟨0, ps.length, none, none, by omega, by simp, rfl⟩ ?_ ?_
  · rintro v vs e ⟨n, m, y3, y4, h1, h2, rfl⟩
    cases m with
    | zero => simp at h2
    | succ m =>
      have hn : n < ps.length := by omega
      have hp : ps[n]? = some ps[n] := List.getElem?_eq_getElem hn
      have rs := rks_succ ps full n _ hp
      rw [List.range'_succ, List.map_cons] at h2
      obtain ⟨rfl, rfl⟩ := List.cons.inj h2
      have e1 := at_ps hn
      generalize ps[n] = p at *
      have ln := rks_len ps full n
      cases hg : p.gone with
      | true =>
        simp -implicitDefEqProofs -dsimp [tv, tv_8, e1, hg]
        exact ⟨n + 1, m, _, _, by omega, rfl, by rw [rs, if_pos hg, List.append_nil]; rfl⟩
      | false =>
        have key : (rks ps full (n + 1)).map Rk.mv = (rks ps full n).map Rk.mv ++ [MV.tup [.bl (!p.val || decide (3 ≤ p.alarms)), .bl !p.val, .bl (decide (p.w2 < p.under + full)), .int p.sm, .int (n : Nat)]] := by
          rw [rs, if_neg (by simp [hg]), List.map_append]
          simp [Rk.mv, rank]
          rw [← decide_not]
          simp [Int.not_lt]
        cases hv : p.val <;> simp only [hv, Bool.not_true, Bool.not_false, Bool.true_or, Bool.false_or] at key <;> simp -implicitDefEqProofs -dsimp [tv, tv_8, e1, hg, hv]
        · rw [methP_app _ _ ((rks ps full n).map Rk.mv) (by simp) (by simp; show _ < 16777216; omega)]
          simp -implicitDefEqProofs -dsimp
          exact ⟨n + 1, m, _, _, by omega, rfl, by rw [key]; rfl⟩
        · rw [methP_app _ _ ((rks ps full n).map Rk.mv) (by simp) (by simp; show _ < 16777216; omega)]
          simp -implicitDefEqProofs -dsimp
          exact ⟨n + 1, m, _, _, by omega, rfl, by rw [key]; rfl⟩
  · rintro e ⟨n, m, y3, y4, h1, h2, rfl⟩
    have hm : m = 0 := by
      cases m with
      | zero => rfl
      | succ m => simp at h2
    have hn : n = ps.length := by omega
    subst hn
    rcases main_cases ps full with ⟨h3, h4⟩ | ⟨h3, s, h5, h4⟩
    · simp -implicitDefEqProofs -dsimp [h3, h4]
    · simp -implicitDefEqProofs -dsimp [h3, h5, h4, Rk.mv]
theorem p_unused (k : Nat) (ps : List Pth) (ids : Ids) : prun g hand (k + 1) "unused_sequence" [.d (.tup (ps.map Pth.fz)), .d ids.mv] = some (.d (unusedV ps ids.theirs), []) := by
  rw [prun_d (i := fn_unused_sequence) rfl (hh _ _ _ (by decide)) rfl rfl]; unfold fn_unused_sequence
  apply eq_of_ok
  simp -implicitDefEqProofs -dsimp
  refine comp_map Pth.fz (fun p : Pth => MV.int (p.theirs : Nat)) ps rfl (fun p hp => by simp -implicitDefEqProofs -dsimp) fun env' he => ?_
  simp -implicitDefEqProofs -dsimp [he, restP_1]
  rw [ps_for _ _ _ _ _ _ _ _ (useV4 _ _ _ _ _)]
  simp -implicitDefEqProofs -dsimp [Ids.mv]
  have inn := in_own (ps.map (·.theirs))
  refine for_inv2 (fun its e => ∃ (qs : List Pr) (y3 y4 y5 : Option PV), its = qs.map prM ∧ unusedV ps qs = unusedV ps ids.theirs ∧ e = [some (.d (.tup (ps.map Pth.fz))), some (.d ids.mv), some (.d (.frl (ps.map fun p => MV.int (p.theirs : Nat)))), y3, y4, y5])
    (fun w e => w = .d (unusedV ps ids.theirs)) ⟨ids.theirs, none, none, none, rfl, rfl, rfl⟩ ?_ ?_ ?_
  · rintro x vs e ⟨qs, y2, y3, y4, q, hq, rfl⟩
    cases qs with
    | nil => simp at q
    | cons p qs =>
      simp only [List.map_cons, List.cons.injEq] at q
      obtain ⟨rfl, rfl⟩ := q
      obtain ⟨a, b⟩ := p
      rw [List.map_map] at inn
      simp only [Function.comp_def] at inn
      cases h : hasN (ps.map (·.theirs)) a with
      | true =>
        simp -implicitDefEqProofs -dsimp [prM, inn, h]
        exact ⟨qs, _, _, _, rfl, by rw [← hq]; simp [unusedV, h], rfl⟩
      | false =>
        have e0 : unusedV ps ids.theirs = .int (a : Nat) := by rw [← hq]; simp [unusedV, h]
        simp -implicitDefEqProofs -dsimp [prM, inn, h, e0]
        exact ⟨by rw [e0]⟩
  · rintro e ⟨qs, y2, y3, y4, q, hq, rfl⟩
    have : qs = [] := by simpa using q.symm
    subst this
    have e0 : unusedV ps ids.theirs = .non := by rw [← hq]; rfl
    simp -implicitDefEqProofs -dsimp [e0]
  · rintro w e rfl
    simp -implicitDefEqProofs -dsimp
theorem ans5D (k : Nat) (ps : List Pth) (j v : Nat) (full : Int) (ids : Ids) (hj : j < ps.length) (ok : PsOk ps) (hn : hand (k + 5) "_law_answers" [.d (.int 5), .d (.frl (ps.map Pth.lx)), .d (.int (j : Nat)), .d (.int (v : Nat)), .d (.int full), .d ids.mv] = none) :
    prun g hand (k + 5) "_law_answers" [.d (.int 5), .d (.frl (ps.map Pth.lx)), .d (.int (j : Nat)), .d (.int (v : Nat)), .d (.int full), .d ids.mv] = some (.d (.bl true), []) := by
  rw [prun_d (i := fn_law_answers) rfl hn rfl rfl]; unfold fn_law_answers
  obtain ⟨o1, o2⟩ := ok.2 _ (List.getElem_mem hj)
  have e1 := at_ps hj
  generalize ps[j] = p at *
  have fz := p_fz hh (k + 1) p
  have z := ok.1
  have f2 := p_fzs hh k ps
  have a := p_main hh (k + 2) ps full z
  have b := p_xmain hh (k + 3) ps full z
  simp only [tv] at b
  have s := p_same hand hh 3 _ (pl_main ps full) k
  simp -implicitDefEqProofs -dsimp [e1, fz, f2, a, b, s]
theorem ans6D (k : Nat) (ps : List Pth) (j v : Nat) (full : Int) (ids : Ids) (hj : j < ps.length) (ok : PsOk ps) (hn : hand (k + 5) "_law_answers" [.d (.int 6), .d (.frl (ps.map Pth.lx)), .d (.int (j : Nat)), .d (.int (v : Nat)), .d (.int full), .d ids.mv] = none) :
    prun g hand (k + 5) "_law_answers" [.d (.int 6), .d (.frl (ps.map Pth.lx)), .d (.int (j : Nat)), .d (.int (v : Nat)), .d (.int full), .d ids.mv] = some (.d (.bl true), []) := by
  rw [prun_d (i := fn_law_answers) rfl hn rfl rfl]; unfold fn_law_answers
  obtain ⟨o1, o2⟩ := ok.2 _ (List.getElem_mem hj)
  have e1 := at_ps hj
  generalize ps[j] = p at *
  have fz := p_fz hh (k + 1) p
  have z := ok.1
  have f2 := p_fzs hh k ps
  have a := p_unused hh (k + 3) ps ids
  have s := p_same hand hh 3 _ (pl_un ps ids.theirs) k
  have inn := in_own (ps.map (·.theirs))
  rw [List.map_map] at inn
  simp only [Function.comp_def] at inn
  apply eq_of_ok
  simp -implicitDefEqProofs -dsimp [e1, fz, Ids.mv]
  refine comp_go prM (fun q => !hasN (ps.map (·.theirs)) q.1) (fun q => .int q.1) ids.theirs rfl (fun q hq => ?_) (fun q hq hp => ?_) fun env' he => ?_
  · apply eq_of_ok
    simp -implicitDefEqProofs -dsimp [prM]
    refine comp_map Pth.lx (fun p : Pth => MV.int (p.theirs : Nat)) ps rfl (fun p hp => by simp -implicitDefEqProofs -dsimp) fun env' he => ?_
    simp -implicitDefEqProofs -dsimp [he, restP_1, inn, prM]
  · simp -implicitDefEqProofs -dsimp [prM]
  · simp only [Ids.mv] at a
    simp -implicitDefEqProofs -dsimp [he, restP_1]
    have e0 : unusedV ps ids.theirs = (match (ids.theirs.filter fun q => !hasN (ps.map (·.theirs)) q.1) with | [] => .non | q :: _ => .int q.1) := by
      unfold unusedV; rw [← List.head?_filter]; cases (ids.theirs.filter fun q => !hasN (ps.map (·.theirs)) q.1) <;> rfl
    simp -implicitDefEqProofs -dsimp [f2, a]
    generalize (ids.theirs.filter fun q => !hasN (ps.map (·.theirs)) q.1) = F at *
    rcases F with _ | ⟨q, F⟩
    · simp only at e0
      rw [e0] at s
      simp -implicitDefEqProofs -dsimp [e0, s, f2, a]
    · simp only at e0
      rw [e0] at s
      simp -implicitDefEqProofs -dsimp [e0, s, f2, a]
theorem ans6O (k : Nat) (ps : List Pth) (j v : Nat) (full : Int) (ids : Ids) (hj : j < ps.length) (ok : PsOk ps) (hn : hand (k + 5) "_law_answers" [.d (.int 6), .own (ps.map Pth.lx), .d (.int (j : Nat)), .d (.int (v : Nat)), .d (.int full), .d ids.mv] = none) :
    prun g hand (k + 5) "_law_answers" [.d (.int 6), .own (ps.map Pth.lx), .d (.int (j : Nat)), .d (.int (v : Nat)), .d (.int full), .d ids.mv] = some (.d (.bl true), [ps.map Pth.lx]) := by
  rw [prun_d (i := fn_law_answers) rfl hn rfl rfl]; unfold fn_law_answers
  obtain ⟨o1, o2⟩ := ok.2 _ (List.getElem_mem hj)
  have e1 := at_ps hj
  generalize ps[j] = p at *
  have fz := p_fz hh (k + 1) p
  have z := ok.1
  have f2 := p_fzsO hh k ps
  have a := p_unused hh (k + 3) ps ids
  have s := p_same hand hh 3 _ (pl_un ps ids.theirs) k
  have inn := in_own (ps.map (·.theirs))
  rw [List.map_map] at inn
  simp only [Function.comp_def] at inn
  apply eq_of_ok
  simp -implicitDefEqProofs -dsimp [e1, fz, Ids.mv]
  refine comp_go prM (fun q => !hasN (ps.map (·.theirs)) q.1) (fun q => .int q.1) ids.theirs rfl (fun q hq => ?_) (fun q hq hp => ?_) fun env' he => ?_
  · apply eq_of_ok
    simp -implicitDefEqProofs -dsimp [prM]
    refine comp_map Pth.lx (fun p : Pth => MV.int (p.theirs : Nat)) ps rfl (fun p hp => by simp -implicitDefEqProofs -dsimp) fun env' he => ?_
    simp -implicitDefEqProofs -dsimp [he, restP_1, inn, prM]
  · simp -implicitDefEqProofs -dsimp [prM]
  · simp only [Ids.mv] at a
    simp -implicitDefEqProofs -dsimp [he, restP_1]
    have e0 : unusedV ps ids.theirs = (match (ids.theirs.filter fun q => !hasN (ps.map (·.theirs)) q.1) with | [] => .non | q :: _ => .int q.1) := by
      unfold unusedV; rw [← List.head?_filter]; cases (ids.theirs.filter fun q => !hasN (ps.map (·.theirs)) q.1) <;> rfl
    simp -implicitDefEqProofs -dsimp [f2, a]
    generalize (ids.theirs.filter fun q => !hasN (ps.map (·.theirs)) q.1) = F at *
    rcases F with _ | ⟨q, F⟩
    · simp only at e0
      rw [e0] at s
      simp -implicitDefEqProofs -dsimp [e0, s, f2, a]
    · simp only at e0
      rw [e0] at s
      simp -implicitDefEqProofs -dsimp [e0, s, f2, a]
end K56
namespace K56
open PySem MP
theorem noOk : HandOk noHand := fun _ _ _ _ => rfl
/-- a call with data alone, and what it leaves -/
theorem pure_run {k : Nat} {f : Str} {us : List MV} {res : MV} (hd : dataAll us = true) (e : prun g noHand k f (us.map .d) = some (.d res, [])) (h : MH) : run g k f us h = some (res, h) := by
  have ar : ∀ us : List MV, dataAll us = true → ARel h (us.map PV.d) us ∧ refsOf (us.map PV.d) us = [] := by
    intro us
    induction us with
    | nil => intro _; exact ⟨True.intro, rfl⟩
    | cons u us ih =>
      intro hd
      simp only [dataAll, Bool.and_eq_true] at hd
      exact ⟨⟨⟨rfl, hd.1⟩, (ih hd.2).1⟩, (ih hd.2).2⟩
  obtain ⟨a, r⟩ := ar us hd
  obtain ⟨v, h', h1, c1, c2, c3, _, c5⟩ := call_ok g noHand noHand_ok k _ _ _ _ e us h a (by rw [r]; exact List.nodup_nil)
  rw [r] at c3
  have : h1 = h := List.ext_getElem? fun q => by
    by_cases hq : q < h.length
    · exact c3 q hq (by simp)
    · rw [List.getElem?_eq_none (by omega), List.getElem?_eq_none (by omega)]
  subst this
  obtain ⟨rfl, _, rfl⟩ := c5
  exact c1
/-- a call with one list -/
theorem own_run {k : Nat} {f : Str} {a : Nat} {xs : List MV} {res : MV} (hd : dataAll xs = true) (e : prun g noHand k f [.own xs] = some (.d res, [xs])) (h : MH) (ha : h[a]? = some (.lst xs)) : run g k f [.ref a] h = some (res, h) := by
  obtain ⟨v, h', h1, c1, c2, c3, c4, c5⟩ := call_ok g noHand noHand_ok k _ _ _ _ e [.ref a] h ⟨⟨a, rfl, ha, hd⟩, True.intro⟩ (by simp [refsOf])
  have : h1 = h := List.ext_getElem? fun q => by
    by_cases hq : q < h.length
    · by_cases hqa : q = a
      · subst hqa; rw [ha]; exact c4.1.1
      · exact c3 q hq (by simpa [refsOf] using hqa)
    · rw [List.getElem?_eq_none (by omega), List.getElem?_eq_none (by omega)]
  subst this
  obtain ⟨rfl, _, rfl⟩ := c5
  exact c1
@[simp] theorem natsL_data (l : List Nat) : dataAll (l.map fun n => MV.int (n : Nat)) = true := by induction l <;> simp_all [dataAll, MV.data]
theorem ints_data (l : List Int) : dataAll (l.map MV.int) = true := by induction l <;> simp_all [dataAll, MV.data]
theorem lx_data (p : Pth) : p.lx.data = true := by
  cases h : p.chal <;> cases h2 : p.ours <;> simp [Pth.lx, Pth.xs, Pth.ctl, MV.data, dataAll, h, h2, chalM, optN, prM, nats, ints_data]
theorem lxs_data (ps : List Pth) : dataAll (ps.map Pth.lx) = true := by induction ps <;> simp_all [dataAll, lx_data]
theorem fz_data (p : Pth) : p.fz.data = true := by
  cases h : p.chal <;> cases h2 : p.ours <;> simp [Pth.fz, Pth.xs, Pth.ctl, MV.data, dataAll, h, h2, chalM, optN, prM, nats, ints_data]
theorem fzs_data (ps : List Pth) : dataAll (ps.map Pth.fz) = true := by induction ps <;> simp_all [dataAll, fz_data]
theorem rks_data (rs : List Rk) : dataAll (rs.map Rk.mv) = true := by induction rs <;> simp_all [dataAll, Rk.mv, MV.data]
section
variable {h : MH} {xs : List MV} {a : Nat}
theorem atR (e : h[a]? = some (.lst xs)) (j : Int) : atM h (.ref a) (.int j) = L2.atI xs j := by simp [atM, seqM, e]
theorem lenR (e : h[a]? = some (.lst xs)) : lenM h [.ref a] = some (.int xs.length, h) := by simp [lenM, seqM, e]
end
def xbody : List S := [
    .asg (.nm 4) (.idx (.idx (.var 0) (.int 8)) (.var 3)),
    .ite (.not (.idx (.var 4) (.int 12))) [
      .ex (.meth .append (.var 2) [.tup [.or (.not (.idx (.var 4) (.int 2))) (.cmp .ge (.idx (.var 4) (.int 17)) (.int 3)), .not (.idx (.var 4) (.int 2)), .cmp .gt (.bin .add (.idx (.var 4) (.int 16)) (.var 1)) (.idx (.idx (.var 4) (.int 15)) (.int 2)), .idx (.idx (.var 4) (.int 14)) (.int 2), .var 3]])] []]
theorem at_fr (h : MH) (xs : List MV) (j : Int) : atM h (.frl xs) (.int j) = L2.atI xs j := rfl
theorem at_tu (h : MH) (xs : List MV) (j : Int) : atM h (.tup xs) (.int j) = L2.atI xs j := rfl
theorem at_lh (h : MH) (p : Pth) (j : Int) : atM h p.lx (.int j) = L2.atI (p.xs (.frl p.ctl)) j := rfl
theorem body_go {cf : Str → List MV → MH → R} {h : MH} {a n : Nat} {ps : List Pth} {full : Int} {ms : List MV} {y4 : Option MV} (ha : h[a]? = some (.lst (ps.map Pth.lx))) (hn : n < ps.length) (hm : dataAll ms = true) (hl : ms.length ≤ 1000) :
    evSs g cf xbody [some (tv full (.ref a)), some (.int full), some (.ref h.length), some (.int (n : Nat)), y4] (h ++ [.lst ms]) =
      some ⟨.nx, [some (tv full (.ref a)), some (.int full), some (.ref h.length), some (.int (n : Nat)), some ps[n].lx], h ++ [.lst (ms ++ if ps[n].gone = true then [] else [(rank ps[n] full n).mv])]⟩ := by
  have e1 := at_ps hn
  have ha' : (h ++ [MO.lst ms])[a]? = some (.lst (ps.map Pth.lx)) := by
    rw [List.getElem?_append_left (List.getElem?_eq_some_iff.mp ha).1]; exact ha
  generalize ps[n] = p at *
  have g1 := gc_same (h := h ++ [MO.lst ms]) (lx_data p)
  have g2 : ∀ b : Bool, MP.gc (h ++ [MO.lst ms]) (.bl b, h ++ [MO.lst ms]) = (.bl b, h ++ [MO.lst ms]) := fun b => gc_same (by simp [MV.data])
  cases hg : p.gone with
  | true =>
    simp [xbody, evSs, evS, evE, evEs, tstE, bindT, tv, at_fr, at_tu, at_lh, atR ha', e1, tv_8, g1, g2, hg, truth]
  | false =>
    have g3 : ∀ v : MV, v.data = true → MP.gc (h ++ [MO.lst ms]) (.non, h ++ [.lst (ms ++ [v])]) = (.non, h ++ [.lst (ms ++ [v])]) := fun v hv => by
      have := gc_upd (h := h ++ [MO.lst ms]) (h' := h ++ [MO.lst (ms ++ [v])]) (j := []) (v := .non) (by simp) (fun i o hi q => by
        by_cases hi' : i < h.length
        · left; rw [List.getElem?_append_left hi'] at q ⊢; exact q
        · right
          have : i = h.length := by simp at hi; omega
          subst this
          simp at q
          subst q
          exact lt_dataAll (by rw [dataAll_iff] at hm ⊢; intro x hx; rcases List.mem_append.mp hx with z | z; exact hm x z; rw [List.mem_singleton.mp z]; exact hv)) (by unfold MV.lt; exact True.intro)
      simpa using this
    have lim : ms.length < LIM := by show _ < 16777216; omega
    have dd : ∀ (x y z : Bool) (i j : Int), (MV.tup [.bl x, .bl y, .bl z, .int i, .int j]).data = true := fun x y z i j => by simp [MV.data, dataAll]
    cases hv : p.val <;> simp [xbody, evSs, evS, evE, evEs, tstE, bindT, tv, at_fr, at_tu, at_lh, atR ha', e1, tv_8, g1, g2, hg, truth, hv, methM, appendM, cmpM, binM, lim, g3, dd, Rk.mv, rank]
    rw [← decide_not]; simp [Int.not_lt]
theorem loop_go {cf : Str → List MV → MH → R} {h : MH} {a : Nat} {ps : List Pth} {full : Int} (ha : h[a]? = some (.lst (ps.map Pth.lx))) (hz : ps.length ≤ 100) :
    ∀ (m n : Nat) (y3 y4 : Option MV), n + m = ps.length → ∃ z3 z4, forL (.nm 3) ⟨(List.range ps.length).map fun i => .int (i : Nat), none⟩ (fun e h => evSs g cf xbody e h) ((List.range' n m).map fun i => MV.int (i : Nat))
      [some (tv full (.ref a)), some (.int full), some (.ref h.length), y3, y4] (h ++ [.lst ((rks ps full n).map Rk.mv)]) = some ⟨.nx, [some (tv full (.ref a)), some (.int full), some (.ref h.length), z3, z4], h ++ [.lst ((rks ps full ps.length).map Rk.mv)]⟩
  | 0, n, y3, y4, e => by
    have : n = ps.length := by omega
    subst this
    exact ⟨y3, y4, by simp [forL, Its.still]⟩
  | m + 1, n, y3, y4, e => by
    have hn : n < ps.length := by omega
    have ln := rks_len ps full n
    have b := body_go (cf := cf) (full := full) (y4 := y4) ha hn (rks_data (rks ps full n)) (by simp; omega)
    have rs := rks_succ ps full n _ (List.getElem?_eq_getElem hn)
    have e2 : (rks ps full n).map Rk.mv ++ (if ps[n].gone = true then [] else [(rank ps[n] full n).mv]) = (rks ps full (n + 1)).map Rk.mv := by
      rw [rs]; split <;> simp
    rw [e2] at b
    obtain ⟨z3, z4, ih⟩ := loop_go (cf := cf) (full := full) ha hz m (n + 1) (some (.int (n : Nat))) (some ps[n].lx) (by omega)
    refine ⟨z3, z4, ?_⟩
    rw [List.range'_succ, List.map_cons]
    simp only [forL]
    rw [if_pos (show Its.still ⟨(List.range ps.length).map fun i => MV.int (i : Nat), none⟩ _ from True.intro)]
    simp only [bindT, Option.bind_some, List.set_cons_succ, List.set_cons_zero, b]
    exact ih
theorem minR (H : MH) (v : MV) (xs : List MV) (hv : lstM H v = some xs) (hi : intsM xs = none) {w : MV} (e : minM [] [.frl xs] = some (w, [])) : minM H [v] = some (w, H) := by
  unfold minM at e ⊢
  simp only [hv, lstM_frl, hi, Option.bind_some] at e ⊢
  unfold minDM at e ⊢
  cases h : toDs xs with
  | none => rw [h] at e; cases e
  | some ds =>
    rw [h] at e
    simp only [Option.bind_some] at e ⊢
    cases ds with
    | nil => cases e
    | cons d r =>
      simp only at e ⊢
      split at e
      · rename_i c
        rw [if_pos c]
        cases e
        rfl
      · cases e
theorem xmain_go {k a : Nat} {h : MH} {ps : List Pth} {full : Int} (ha : h[a]? = some (.lst (ps.map Pth.lx))) (hz : ps.length ≤ 100) : run g (k + 1) "_law_x_main" [tv full (.ref a)] h = some (mainV ps full, h) := by
  have hl : g.fns.lookup ("_law_x_main" : Str) = some fn_law_x_main := rfl
  have g1 : MP.gc h (.int full, h) = (.int full, h) := gc_same (by simp [MV.data])
  have g2 : MP.gc h (.ref h.length, h ++ [MO.lst []]) = (.ref h.length, h ++ [MO.lst []]) := by
    have := gc_lst (h := h) (h' := h) (j := [MO.lst []]) (i := 0) (o := .lst []) rfl (fun i o _ q => .inl q) rfl (by unfold MO.lt ltAll; exact True.intro)
    simpa using this
  have ha' : (h ++ [MO.lst []])[a]? = some (.lst (ps.map Pth.lx)) := by
    rw [List.getElem?_append_left (List.getElem?_eq_some_iff.mp ha).1]; exact ha
  have g3 : MP.gc (h ++ [MO.lst []]) (.non, h ++ [MO.lst []]) = (.non, h ++ [MO.lst []]) := gc_same (by simp [MV.data])
  have r1 := rng1_items (n := ps.length) (by omega) (h ++ [MO.lst []])
  obtain ⟨z3, z4, lp⟩ := loop_go (cf := run g k) (full := full) ha hz ps.length 0 none none (by omega)
  rw [← List.range_eq_range'] at lp
  have e0 : rks ps full 0 = [] := rfl
  rw [e0, List.map_nil] at lp
  have f1 : evS g (MP.run g k) (.asg (.nm 1) (.idx (.idx (.var 0) (.int 1)) (.int 2))) [some (tv full (.ref a)), none, none, none, none] h = some ⟨.nx, [some (tv full (.ref a)), some (.int full), none, none, none], h⟩ := by
    simp [evS, evE, bindT, tv, at_fr, at_tu, tv_1, g1]
  have f2 : evS g (MP.run g k) (.asg (.nm 2) (.lst [])) [some (tv full (.ref a)), some (.int full), none, none, none] h = some ⟨.nx, [some (tv full (.ref a)), some (.int full), some (.ref h.length), none, none], h ++ [.lst []]⟩ := by
    simp [evS, evE, evEs, bindT, g2]
  have f3 : evS g (MP.run g k) (.for_ (.nm 3) .rng1 [.bi .len [.idx (.var 0) (.int 8)]] xbody) [some (tv full (.ref a)), some (.int full), some (.ref h.length), none, none] (h ++ [.lst []]) = some ⟨.nx, [some (tv full (.ref a)), some (.int full), some (.ref h.length), z3, z4], h ++ [.lst ((rks ps full ps.length).map Rk.mv)]⟩ := by
    have e : evI g (MP.run g k) .rng1 [.bi .len [.idx (.var 0) (.int 8)]] [some (tv full (.ref a)), some (.int full), some (.ref h.length), none, none] (h ++ [.lst []]) = some (⟨(List.range ps.length).map fun i => .int (i : Nat), none⟩, h ++ [.lst []]) := by
      simp [evI, evE, evEs, itsG, tv, at_fr, at_tu, tv_8, g3, lenR ha', r1, biM]
    simp only [evS, e, Option.bind_some]
    exact lp
  have hb : fn_law_x_main.body = [.asg (.nm 1) (.idx (.idx (.var 0) (.int 1)) (.int 2)), .asg (.nm 2) (.lst []), .for_ (.nm 3) .rng1 [.bi .len [.idx (.var 0) (.int 8)]] xbody, .ret (.ife (.var 2) (.idx (.bi .min [.var 2]) (.int 4)) (.non))] := rfl
  have g4 : ∀ v : MV, v.data = true → MP.gc (h ++ [MO.lst ((rks ps full ps.length).map Rk.mv)]) (v, h ++ [MO.lst ((rks ps full ps.length).map Rk.mv)]) = (v, h ++ [MO.lst ((rks ps full ps.length).map Rk.mv)]) := fun v hv => gc_same hv
  have g5 : ∀ v : MV, v.data = true → MP.gc h (v, h ++ [MO.lst ((rks ps full ps.length).map Rk.mv)]) = (v, h) := fun v hv => gc_app hv
  have dm : (mainV ps full).data = true := by rcases main_cases ps full with ⟨_, h⟩ | ⟨_, s, _, h⟩ <;> rw [h] <;> simp [MV.data]
  have f4 : evS g (MP.run g k) (.ret (.ife (.var 2) (.idx (.bi .min [.var 2]) (.int 4)) (.non))) [some (tv full (.ref a)), some (.int full), some (.ref h.length), z3, z4] (h ++ [.lst ((rks ps full ps.length).map Rk.mv)]) = some ⟨.rt (mainV ps full), [some (tv full (.ref a)), some (.int full), some (.ref h.length), z3, z4], h ++ [.lst ((rks ps full ps.length).map Rk.mv)]⟩ := by
    have tr : truth (h ++ [MO.lst ((rks ps full ps.length).map Rk.mv)]) (.ref h.length) = some (!(rks ps full ps.length).isEmpty) := by
      simp [truth]
    rcases main_cases ps full with ⟨h3, h4⟩ | ⟨h3, s, h5, h4⟩
    · have tr' : truth (h ++ [MO.lst []]) (.ref h.length) = some false := by simp [truth]
      have g4n := g4 .non (by simp [MV.data])
      simp [h3] at g4n
      simp [evS, evE, tr', h3, h4, g4n]
    · have hne : rks ps full ps.length ≠ [] := by simpa using h3
      have g4n := g4 (.int s.n) (by simp [MV.data])
      have mr := minR (h ++ [MO.lst ((rks ps full ps.length).map Rk.mv)]) (.ref h.length) _ (by simp [lstM]) (ints_rk _ hne) h5
      rw [h3] at tr
      generalize (rks ps full ps.length).map Rk.mv = L at *
      have atm : ∀ H : MH, atM H s.mv (.int 4) = some (.int s.n) := fun _ => rfl
      have bm : biM .min (h ++ [MO.lst L]) [.ref h.length] = minM (h ++ [MO.lst L]) [.ref h.length] := rfl
      simp [evS, evE, evEs, tr, h4, g4n, bm, mr, atm]
  simp only [MP.run, hl]
  rw [if_pos (show [tv full (.ref a)].length = fn_law_x_main.np from rfl), hb]
  simp only [List.map_cons, List.map_nil]
  have e5 : [some (tv full (MV.ref a))] ++ List.replicate (fn_law_x_main.names.length - [tv full (MV.ref a)].length) none = [some (tv full (.ref a)), none, none, none, none] := rfl
  rw [e5]
  simp only [evSs, f1, f2, f3, f4, Option.bind_some]
  have ic : fn_law_x_main.icy = false := rfl
  simp only [ic]
  rw [if_neg (by decide), g5 _ dm]
end K56
namespace K56
open PySem MP
theorem run_body {k : Nat} {f : Str} {i : FnI} {vs : List MV} {h h' : MH} {v : MV} {env : MP.Env} (hl : g.fns.lookup f = some i) (hn : vs.length = i.np) (e : evSs g (MP.run g k) i.body (vs.map some ++ List.replicate (i.names.length - vs.length) none) h = some ⟨.rt v, env, h'⟩) (hi : i.icy = false) :
    MP.run g (k + 1) f vs h = some (MP.gc h (v, h')) := by
  simp only [MP.run, hl]
  rw [if_pos hn, e, hi]
  rfl
theorem ans5_run {k a j : Nat} {h : MH} {ps : List Pth} {full : Int} {v ids : MV} (ok : PsOk ps) (ha : h[a]? = some (.lst (ps.map Pth.lx))) (hj : j < ps.length) : run g (k + 5) "_law_answers" [.int 5, .ref a, .int (j : Nat), v, .int full, ids] h = some (.bl true, h) := by
  have hl : g.fns.lookup ("_law_answers" : Str) = some fn_law_answers := rfl
  have hz := ok.1
  have e1 := at_ps hj
  generalize ps[j] = p at *
  have g1 := gc_same (h := h) (lx_data p)
  have g2 := gc_same (h := h) (fz_data p)
  have g3 : ∀ b : Bool, MP.gc h (.bl b, h) = (.bl b, h) := fun b => gc_same (by simp [MV.data])
  have r1 : run g (k + 4) "_law_frozen" [p.lx] h = some (p.fz, h) := by
    have e := p_fz noOk (k + 1) p
    have d := lx_data p
    rw [show k + 1 + 3 = k + 4 from rfl] at e
    generalize p.fz = z at e ⊢
    generalize p.lx = y at e d ⊢
    exact pure_run (us := [y]) (by simp [dataAll, d]) e h
  have r2 : run g (k + 4) "_law_frozen" [.ref a] h = some (.tup (ps.map Pth.fz), h) := own_run (lxs_data ps) (p_fzsO noOk k ps) h ha
  have r3 : run g (k + 4) "main_of" [.tup (ps.map Pth.fz), .int full] h = some (mainV ps full, h) := pure_run (by simp [dataAll, MV.data, fzs_data]) (p_main noOk (k + 2) ps full hz) h
  have r4 : run g (k + 4) "_law_x_main" [tv full (.ref a)] h = some (mainV ps full, h) := xmain_go ha hz
  have dm : (mainV ps full).data = true := by rcases main_cases ps full with ⟨_, h⟩ | ⟨_, s, _, h⟩ <;> rw [h] <;> simp [MV.data]
  have r5 : run g (k + 4) "_law_same" [mainV ps full, mainV ps full] h = some (.bl true, h) := pure_run (by simp [dataAll, dm]) (p_same noHand noOk 3 _ (pl_main ps full) k) h
  have s1 : evS g (MP.run g (k + 4)) (.asg (.nm 6) (.idx (.var 1) (.var 2))) [some (.int 5), some (.ref a), some (.int (j : Nat)), some v, some (.int full), some ids, none, none, none, none, none, none, none] h = some ⟨.nx, [some (.int 5), some (.ref a), some (.int (j : Nat)), some v, some (.int full), some ids, some p.lx, none, none, none, none, none, none], h⟩ := by
    simp [evS, evE, bindT, atR ha, e1, g1]
  have s2 : evS g (MP.run g (k + 4)) (.asg (.nm 7) (.call "_law_frozen" [.var 6])) [some (.int 5), some (.ref a), some (.int (j : Nat)), some v, some (.int full), some ids, some p.lx, none, none, none, none, none, none] h = some ⟨.nx, [some (.int 5), some (.ref a), some (.int (j : Nat)), some v, some (.int full), some ids, some p.lx, some p.fz, none, none, none, none, none], h⟩ := by
    simp [evS, evE, evEs, bindT, r1, g2]
  have sk : ∀ (i : Int) (A : List S), i ≠ 5 → evS g (MP.run g (k + 4)) (.ite (.cmp .eq (.var 0) (.int i)) A []) [some (.int 5), some (.ref a), some (.int (j : Nat)), some v, some (.int full), some ids, some p.lx, some p.fz, none, none, none, none, none] h = some ⟨.nx, [some (.int 5), some (.ref a), some (.int (j : Nat)), some v, some (.int full), some ids, some p.lx, some p.fz, none, none, none, none, none], h⟩ := fun i A hi => by
    have d5 : decide ((5 : Int) = i) = false := decide_eq_false fun e => hi e.symm
    simp [evS, evSs, evE, tstE, g3, d5, truth]
  have fzE : frzM h (.ref h.length, h ++ [.lst [.int 0, .tup [.int 0, .int 0, .int full], .int 0, .int 0, .int 0, .int 0, .int 0, .int 0, .ref a]]) = some (tv full (.ref a), h) := by
    unfold frzM
    simp only [List.getElem?_append_right (Nat.le_refl _), Nat.sub_self, List.getElem?_cons_zero]
    have ha' := (List.getElem?_eq_some_iff.mp ha).1
    rw [if_pos ⟨Nat.le_refl _, by simp, fun i o hi q => .inl (by rwa [List.getElem?_append_left hi] at q), by simp [ltAll, MV.lt, ha']⟩]
    simp [tv]
  have s8 : ∀ B : List S, evS g (MP.run g (k + 4)) (.ite (.cmp .eq (.var 0) (.int 5)) [.ret (.call "_law_same" [.call "main_of" [.call "_law_frozen" [.var 1], .var 4], .call "_law_x_main" [.frz (.lst [.int 0, .tup [.int 0, .int 0, .var 4], .int 0, .int 0, .int 0, .int 0, .int 0, .int 0, .var 1])]])] B) [some (.int 5), some (.ref a), some (.int (j : Nat)), some v, some (.int full), some ids, some p.lx, some p.fz, none, none, none, none, none] h = some ⟨.rt (.bl true), [some (.int 5), some (.ref a), some (.int (j : Nat)), some v, some (.int full), some ids, some p.lx, some p.fz, none, none, none, none, none], h⟩ := fun B => by
    simp [evS, evSs, evE, evEs, tstE, g3, truth, r2, r3, fzE, r4, r5]
  have e5 : List.map some [MV.int 5, .ref a, .int (j : Nat), v, .int full, ids] ++ List.replicate (fn_law_answers.names.length - [MV.int 5, .ref a, .int (j : Nat), v, .int full, ids].length) none = [some (.int 5), some (.ref a), some (.int (j : Nat)), some v, some (.int full), some ids, none, none, none, none, none, none, none] := rfl
  have := run_body (k := k + 4) (vs := [MV.int 5, .ref a, .int (j : Nat), v, .int full, ids]) (h := h) (h' := h) (v := .bl true) (env := [some (.int 5), some (.ref a), some (.int (j : Nat)), some v, some (.int full), some ids, some p.lx, some p.fz, none, none, none, none, none]) hl rfl (by
    rw [e5]
    unfold fn_law_answers
    simp only [evSs, s1, s2, sk 0 _ (by decide), sk 1 _ (by decide), sk 2 _ (by decide), sk 3 _ (by decide), sk 4 _ (by decide), s8, Option.bind_some]) rfl
  rw [g3] at this
  exact this
open Classical in
/-- the one call that is proved by hand -/
noncomputable def hand5 : Hand := fun k f args => if f = ("_law_answers" : Str) ∧ 5 ≤ k then match args with
  | [.d (.int i), .own xs, .d (.int j), .d v, .d (.int full), .d ids] => if i = 5 ∧ (∃ ps : List Pth, PsOk ps ∧ xs = ps.map Pth.lx ∧ ∃ n : Nat, j = n ∧ n < ps.length) then some (.d (.bl true), [xs]) else none
  | _ => none
  else none
theorem h5 : HandOk hand5 := fun k f args hf => by unfold hand5; rw [if_neg fun z => hf z.1]
theorem h5_ok (k : Nat) : CallOk (run g k) (hand5 k) := by
  intro f args res outs q vs h ar nd
  unfold hand5 at q
  split at q
  · rename_i hf
    obtain ⟨rfl, hk⟩ := hf
    split at q
    · rename_i i xs j v full ids
      split at q
      · rename_i c
        obtain ⟨rfl, ps, ok, rfl, n, rfl, hn⟩ := c
        cases q
        match vs, ar with
        | [x1, x2, x3, x4, x5, x6], ar =>
          obtain ⟨⟨rfl, _⟩, ⟨a, rfl, ha, hd⟩, ⟨rfl, _⟩, ⟨rfl, _⟩, ⟨rfl, _⟩, ⟨rfl, _⟩, _⟩ := ar
          obtain ⟨k, rfl⟩ : ∃ k', k = k' + 5 := ⟨k - 5, by omega⟩
          exact ⟨.bl true, h, h, ans5_run ok ha hn, rfl, fun _ _ _ => rfl, ⟨⟨ha, hd⟩, True.intro⟩, rfl, by simp [MV.data], rfl⟩
      · cases q
    · cases q
  · cases q
theorem ans5O (k : Nat) (ps : List Pth) (j : Nat) (v ids : MV) (full : Int) (ok : PsOk ps) (hj : j < ps.length) : prun g hand5 (k + 5) "_law_answers" [.d (.int 5), .own (ps.map Pth.lx), .d (.int (j : Nat)), .d v, .d (.int full), .d ids] = some (.d (.bl true), [ps.map Pth.lx]) := by
  have e : hand5 (k + 5) "_law_answers" [.d (.int 5), .own (ps.map Pth.lx), .d (.int (j : Nat)), .d v, .d (.int full), .d ids] = some (.d (.bl true), [ps.map Pth.lx]) := by
    unfold hand5
    rw [if_pos ⟨rfl, by omega⟩]
    simp only
    rw [if_pos ⟨rfl, ps, ok, rfl, j, rfl, hj⟩]
  simp only [prun, e]
theorem n5D (k : Nat) (n : Int) (x : MV) (a b c d : PV) : hand5 k "_law_answers" [.d (.int n), .d x, a, b, c, d] = none := by
  unfold hand5
  split <;> rfl
theorem n5O (k : Nat) (n : Int) (hn : n ≠ 5) (xs : List MV) (a b c d : MV) (b' c' : Int) : hand5 k "_law_answers" [.d (.int n), .own xs, .d (.int b'), .d a, .d (.int c'), .d d] = none := by
  unfold hand5
  split
  · simp only
    rw [if_neg fun z => hn z.1]
  · rfl
/-- the answers at each door -/
theorem ansD (k : Nat) (n : Nat) (hn : n < 7) (ps : List Pth) (j v : Nat) (full : Int) (ids : Ids) (hj : j < ps.length) (ok : PsOk ps) : prun g hand5 (k + 5) "_law_answers" [.d (.int (n : Nat)), .d (.frl (ps.map Pth.lx)), .d (.int (j : Nat)), .d (.int (v : Nat)), .d (.int full), .d ids.mv] = some (.d (.bl true), []) := by
  rcases (by omega : n = 0 ∨ n = 1 ∨ n = 2 ∨ n = 3 ∨ n = 4 ∨ n = 5 ∨ n = 6) with rfl | rfl | rfl | rfl | rfl | rfl | rfl
  · rw [show ((0 : Nat) : Int) = 0 from rfl]; exact ans0D h5 k ps j v full ids hj ok (n5D _ _ _ _ _ _ _)
  · rw [show ((1 : Nat) : Int) = 1 from rfl]; exact ans1D h5 k ps j v full ids hj ok (n5D _ _ _ _ _ _ _)
  · rw [show ((2 : Nat) : Int) = 2 from rfl]; exact ans2D h5 k ps j v full ids hj ok (n5D _ _ _ _ _ _ _)
  · rw [show ((3 : Nat) : Int) = 3 from rfl]; exact ans3D h5 k ps j v full ids hj ok (n5D _ _ _ _ _ _ _)
  · rw [show ((4 : Nat) : Int) = 4 from rfl]; exact ans4D h5 k ps j v full ids hj ok (n5D _ _ _ _ _ _ _)
  · rw [show ((5 : Nat) : Int) = 5 from rfl]; exact ans5D h5 k ps j v full ids hj ok (n5D _ _ _ _ _ _ _)
  · rw [show ((6 : Nat) : Int) = 6 from rfl]; exact ans6D h5 k ps j v full ids hj ok (n5D _ _ _ _ _ _ _)
theorem ansO (k : Nat) (n : Nat) (hn : n < 7) (ps : List Pth) (j v : Nat) (full : Int) (ids : Ids) (hj : j < ps.length) (ok : PsOk ps) : prun g hand5 (k + 5) "_law_answers" [.d (.int (n : Nat)), .own (ps.map Pth.lx), .d (.int (j : Nat)), .d (.int (v : Nat)), .d (.int full), .d ids.mv] = some (.d (.bl true), [ps.map Pth.lx]) := by
  rcases (by omega : n = 0 ∨ n = 1 ∨ n = 2 ∨ n = 3 ∨ n = 4 ∨ n = 5 ∨ n = 6) with rfl | rfl | rfl | rfl | rfl | rfl | rfl
  · rw [show ((0 : Nat) : Int) = 0 from rfl]; exact ans0O h5 k ps j v full ids hj ok (n5O _ _ (by decide) _ _ .non .non _ _ _)
  · rw [show ((1 : Nat) : Int) = 1 from rfl]; exact ans1O h5 k ps j v full ids hj ok (n5O _ _ (by decide) _ _ .non .non _ _ _)
  · rw [show ((2 : Nat) : Int) = 2 from rfl]; exact ans2O h5 k ps j v full ids hj ok (n5O _ _ (by decide) _ _ .non .non _ _ _)
  · rw [show ((3 : Nat) : Int) = 3 from rfl]; exact ans3O h5 k ps j v full ids hj ok (n5O _ _ (by decide) _ _ .non .non _ _ _)
  · rw [show ((4 : Nat) : Int) = 4 from rfl]; exact ans4O h5 k ps j v full ids hj ok (n5O _ _ (by decide) _ _ .non .non _ _ _)
  · rw [show ((5 : Nat) : Int) = 5 from rfl]; exact ans5O k ps j _ _ full ok hj
  · rw [show ((6 : Nat) : Int) = 6 from rfl]; exact ans6O h5 k ps j v full ids hj ok (n5O _ _ (by decide) _ _ .non .non _ _ _)
end K56
namespace K56
open PySem MP
theorem ps_forV {g : Mod} {cp : Str → List PV → Option (PV × List (List MV))} {np : Nat} {env : PEnv} (t k es body) {i : Nat} {js : List Nat} (h : useV t k es env (sasL body) = some (i, js)) : pS g cp np (.for_ t k es body) env = forV np i (fBdP g cp np body) js env := by
  simp only [pS, h]; rfl
theorem el (p : Pth) : MV.frl (p.xs (.frl p.ctl)) = p.lx := rfl
theorem ep (f t : Int) : MV.tup [.int 120, .int 60, .int f, .int 4, .int t, .int 0] = profM f t := rfl
theorem rng2_items (d : Nat) (hd : d < 4) : itsM .rng2 [] [.int (1 + (d : Int)), .int 5] = some ⟨(List.range (4 - d)).map fun i => .int ((1 + d + i : Nat) : Int), none⟩ := by
  have e : (5 - (1 + (d : Int))).toNat = 4 - d := by omega
  simp only [itsM]
  rw [if_pos ⟨by omega, by omega, by omega, by omega, by rw [e]; show _ ≤ 16777216; omega⟩, e]
  congr 2
theorem roles_go {k : Nat} {cl : Bool} {full trip : Int} {rule : List Int} (hr : rule.length = 4) :
    prun g hand5 (k + 5) "_law_same" [.d (newP cl full trip rule 1 10 true 0 (some 0) false).fz, .d (newP cl full trip rule 1 10 true 0 (some 0) false).fz] = some (.d (.bl true), []) :=
  p_same hand5 h5 3 _ (pl_fz _ (by show rule.length ≤ 1000; omega) (by exact Nat.zero_le _)) (k + 1)
theorem roles2_go {k : Nat} {cl : Bool} {full trip : Int} {rule : List Int} (hr : rule.length = 4) (a b : Int) (th : Nat) (o : Option Nat) (r : Bool) :
    prun g hand5 (k + 5) "_law_same" [.d (newP cl full trip rule a b false th o r).fz, .d (newP cl full trip rule a b false th o r).fz] = some (.d (.bl true), []) :=
  p_same hand5 h5 3 _ (pl_fz _ (by show rule.length ≤ 1000; omega) (by exact Nat.zero_le _)) (k + 1)
theorem lxs_of : ∀ {vs : List MV}, (∀ x ∈ vs, ∃ p : Pth, x = p.lx ∧ p.rule.length = 4 ∧ p.resp.length ≤ 5) → ∃ ps : List Pth, vs = ps.map Pth.lx ∧ ∀ p ∈ ps, p.rule.length = 4 ∧ p.resp.length ≤ 5
  | [], _ => ⟨[], rfl, by simp⟩
  | v :: vs, h => by
    obtain ⟨n, rfl, h1⟩ := h v List.mem_cons_self
    obtain ⟨l, e, h2⟩ := lxs_of fun x hx => h x (List.mem_cons_of_mem _ hx)
    exact ⟨n :: l, by rw [e]; rfl, fun p hp => by rcases List.mem_cons.mp hp with rfl | z; exact h1; exact h2 p z⟩
theorem forV_d {np i j : Nat} {body : PEnv → Option POut} {js : List Nat} {env e' : PEnv} {v : MV} (e : env[j]? = some (some (.d v))) (b : body (env.set i (some (.d v))) = some ⟨.nx, e'⟩) : forV np i body (j :: js) env = forV np i body js e' := by
  simp only [forV, e, b, Option.bind_some]
theorem forV_o {np i j : Nat} {body : PEnv → Option POut} {js : List Nat} {env e' : PEnv} {xs ys : List MV} (e : env[j]? = some (some (.own xs))) (hn : np ≤ j) (b : body ((env.set j none).set i (some (.own xs))) = some ⟨.nx, e'⟩) (e2 : e'[i]? = some (some (.own ys))) :
    forV np i body (j :: js) env = forV np i body js ((e'.set i none).set j (some (.own ys))) := by
  simp only [forV, e, b, Option.bind_some, e2]
  rw [if_pos hn]
theorem walk3 {k : Nat} {t : Tp} {full trip : Int} {rule roles : MV} {y5 y6 y7 y8 y9 y16 : Option PV} {P : MV} {qs : List MV} {j v z : Nat} {ids : MV}
    (a1 : prun g hand5 (k + 5) "_law_answers" [.d (.int z), .d P, .d (.int j), .d (.int v), .d (.int full), .d ids] = some (.d (.bl true), []))
    (a2 : prun g hand5 (k + 5) "_law_answers" [.d (.int z), .d P, .d (.int j), .d (.int (v + 1)), .d (.int (mn (full + 1) 80)), .d ids] = some (.d (.bl true), []))
    (a3 : prun g hand5 (k + 5) "_law_answers" [.d (.int z), .own qs, .d (.int j), .d (.int v), .d (.int full), .d ids] = some (.d (.bl true), [qs]))
    (a4 : prun g hand5 (k + 5) "_law_answers" [.d (.int z), .own qs, .d (.int j), .d (.int (v + 1)), .d (.int (mn (full + 1) 80)), .d ids] = some (.d (.bl true), [qs])) :
    pS g (prun g hand5 (k + 5)) 1 (.for_ (.nm 16) .ex [.frz (.lst [.var 10, .var 15, .var 10])] [
      .ite (.or (.not (.call "_law_answers" [.var 13, .var 16, .var 11, .var 14, .idx (.var 2) (.int 2), .var 12])) (.not (.call "_law_answers" [.var 13, .var 16, .var 11, .bin .add (.var 14) (.int 1), .bi .min [.bin .add (.idx (.var 2) (.int 2)) (.int 1), .int 80], .var 12]))) [
        .ret (.bl false)] []]) [some (.own (tp t)), some (.d (.int full)), some (.d (profM full trip)), some (.d rule), some (.d roles), y5, y6, y7, y8, y9, some (.d P), some (.d (.int j)), some (.d ids), some (.d (.int z)), some (.d (.int v)), some (.own qs), y16] =
      some ⟨.nx, [some (.own (tp t)), some (.d (.int full)), some (.d (profM full trip)), some (.d rule), some (.d roles), y5, y6, y7, y8, y9, some (.d P), some (.d (.int j)), some (.d ids), some (.d (.int z)), some (.d (.int v)), some (.own qs), some (.d P)]⟩ := by
  rw [ps_forV _ _ _ _ (i := 16) (js := [10, 15, 10]) rfl]
  have bD : ∀ y15 : Option PV, fBdP g (prun g hand5 (k + 5)) 1 [
      .ite (.or (.not (.call "_law_answers" [.var 13, .var 16, .var 11, .var 14, .idx (.var 2) (.int 2), .var 12])) (.not (.call "_law_answers" [.var 13, .var 16, .var 11, .bin .add (.var 14) (.int 1), .bi .min [.bin .add (.idx (.var 2) (.int 2)) (.int 1), .int 80], .var 12]))) [
        .ret (.bl false)] []] [some (.own (tp t)), some (.d (.int full)), some (.d (profM full trip)), some (.d rule), some (.d roles), y5, y6, y7, y8, y9, some (.d P), some (.d (.int j)), some (.d ids), some (.d (.int z)), some (.d (.int v)), y15, some (.d P)] = some ⟨.nx, [some (.own (tp t)), some (.d (.int full)), some (.d (profM full trip)), some (.d rule), some (.d roles), y5, y6, y7, y8, y9, some (.d P), some (.d (.int j)), some (.d ids), some (.d (.int z)), some (.d (.int v)), y15, some (.d P)]⟩ := fun y15 => by
    simp -implicitDefEqProofs -dsimp [a1, a2]
  have bO : fBdP g (prun g hand5 (k + 5)) 1 [
      .ite (.or (.not (.call "_law_answers" [.var 13, .var 16, .var 11, .var 14, .idx (.var 2) (.int 2), .var 12])) (.not (.call "_law_answers" [.var 13, .var 16, .var 11, .bin .add (.var 14) (.int 1), .bi .min [.bin .add (.idx (.var 2) (.int 2)) (.int 1), .int 80], .var 12]))) [
        .ret (.bl false)] []] [some (.own (tp t)), some (.d (.int full)), some (.d (profM full trip)), some (.d rule), some (.d roles), y5, y6, y7, y8, y9, some (.d P), some (.d (.int j)), some (.d ids), some (.d (.int z)), some (.d (.int v)), none, some (.own qs)] = some ⟨.nx, [some (.own (tp t)), some (.d (.int full)), some (.d (profM full trip)), some (.d rule), some (.d roles), y5, y6, y7, y8, y9, some (.d P), some (.d (.int j)), some (.d ids), some (.d (.int z)), some (.d (.int v)), none, some (.own qs)]⟩ := by
    simp -implicitDefEqProofs -dsimp [a3, a4]
  rw [forV_d (v := P) rfl (bD _), forV_o (xs := qs) (ys := qs) rfl (by decide) bO rfl]
  refine (forV_d (v := P) rfl (bD _)).trans ?_
  rfl
theorem doors_go {k : Nat} {t : Tp} {Q : PV × List (List MV) → Prop} (K : ∀ (t' : Tp), Q (.d (.bl true), [tp t'])) : Ok Q .mk (prun g hand5 (k + 6) "_law_doors" [.own (tp t)]) := by
  rw [prun_d (i := fn_law_doors) rfl (h5 _ _ _ (by decide)) rfl rfl]; unfold fn_law_doors
  simp -implicitDefEqProofs -dsimp
  refine draw_go hd (hdr h5) (by omega) (by omega) fun d1 t1 q1 => ?_
  simp -implicitDefEqProofs -dsimp
  refine draw_go hd (hdr h5) (by omega) (by omega) fun d2 t2 q2 => ?_
  have e : ∃ f : Int, L2.atI [.int 32, .int 40, .int 80, .int (32 + (d1 : Int))] (d2 : Int) = some (MV.int f) := by
    rcases (by omega : d2 = 0 ∨ d2 = 1 ∨ d2 = 2 ∨ d2 = 3) with rfl | rfl | rfl | rfl <;> exact ⟨_, by simp; rfl⟩
  obtain ⟨full, e⟩ := e
  simp -implicitDefEqProofs -dsimp [e]
  refine draw_go hd (hdr h5) (by omega) (by omega) fun d3 t3 q3 => ?_
  simp -implicitDefEqProofs -dsimp [ep]
  generalize (1 + (d3 : Int)) = trip
  refine rule_go h5 fun rule t4 hr => ?_
  simp -implicitDefEqProofs -dsimp
  rw [ps_for _ _ _ _ _ _ _ _ (useV_no _ rfl)]
  simp -implicitDefEqProofs -dsimp
  refine draw_go hd (hdr h5) (by omega) (by omega) fun d5 t5 q5 => ?_
  simp -implicitDefEqProofs -dsimp
  have ec : ∃ cls : List Bool, cutM (cutM [MV.str "client", .str "server", .str "client", .str "server"] (some (d5 : Int)) none) none (some 3) = cls.map roleM := by
    rcases (by omega : d5 = 0 ∨ d5 = 1) with rfl | rfl
    · exact ⟨[true, false, true], rfl⟩
    · exact ⟨[false, true, false], rfl⟩
  obtain ⟨cls, ec⟩ := ec
  simp -implicitDefEqProofs -dsimp [ec]
  refine for_inv (fun its e => ∃ (t : Tp) (cls : List Bool) (y5 y6 y7 y8 y9 : Option PV), its = cls.map roleM ∧ e = [some (.own (tp t)), some (.d (.int full)), some (.d (profM full trip)), some (.d (ruleM rule)), some (.d (.frl [.str "client", .str "server", .str "client", .str "server"])), y5, y6, y7, y8, y9, none, none, none, none, none, none, none])
    ⟨t5, cls, none, none, none, none, none, rfl, rfl⟩ ?_ ?_
  · rintro v vs e ⟨t, cls, y5, y6, y7, y8, y9, h1, rfl⟩
    cases cls with
    | nil => simp at h1
    | cons cl cls =>
      obtain ⟨rfl, rfl⟩ := List.cons.inj h1
      have x1 := p_xpath h5 (k + 4) cl full trip rule 1 10 true 0 (some 0) false
      have x2 := fun (th : Nat) (o : Option Nat) (r : Bool) => p_xpath h5 (k + 4) cl full trip rule 10 2 false th o r
      have f1 := p_first h5 (k + 3) cl full trip rule 1 10
      have f2 := fun (th : Nat) (o : Option Nat) (r : Bool) => p_further h5 (k + 2) cl full trip rule 10 2 th o r
      have z1 := p_fz h5 (k + 2)
      have s1 := roles_go (k := k) (cl := cl) (full := full) (trip := trip) hr
      have s2 := roles2_go (k := k) (cl := cl) (full := full) (trip := trip) hr 10 2
      simp only [optN, show ((0 : Nat) : Int) = 0 from rfl] at x1
      generalize newP cl full trip rule 1 10 true 0 (some 0) false = P1 at *
      simp -implicitDefEqProofs -dsimp [x1, f1, z1, s1, el]
      refine draw_go hd (hdr h5) (by omega) (by omega) fun d6 t6 q6 => ?_
      cases cl with
      | true =>
        simp -implicitDefEqProofs -dsimp [role_c]
        refine draw_go hd (hdr h5) (by omega) (by omega) fun d7 t7 q7 => ?_
        have x2 := x2 (1 + d7) none (decide (d6 = 0))
        have f2 := f2 (1 + d7) none (decide (d6 = 0))
        have s2 := s2 (1 + d7) none (decide (d6 = 0))
        have th : (newP true full trip rule 10 2 false (1 + d7) none (decide (d6 = 0))).theirs = 1 + d7 := rfl
        generalize newP true full trip rule 10 2 false (1 + d7) none (decide (d6 = 0)) = P2 at *
        simp only [optN, show ((1 + d7 : Nat) : Int) = 1 + (d7 : Int) from by omega] at x2 f2
        have th' : (P2.theirs : Int) = 1 + (d7 : Int) := by omega
        simp -implicitDefEqProofs -dsimp [x2, el, f2, z1, s2, th']
        exact ⟨t7, cls, _, _, _, _, _, rfl, rfl⟩
      | false =>
        simp -implicitDefEqProofs -dsimp [role_c]
        refine draw_go hd (hdr h5) (by omega) (by omega) fun d8 t8 q8 => ?_
        simp -implicitDefEqProofs -dsimp
        refine draw_go hd (hdr h5) (by omega) (by omega) fun d7 t7 q7 => ?_
        have x2 := x2 (1 + d7) (some (1 + d8)) (decide (d6 = 0))
        have f2 := f2 (1 + d7) (some (1 + d8)) (decide (d6 = 0))
        have s2 := s2 (1 + d7) (some (1 + d8)) (decide (d6 = 0))
        have th : (newP false full trip rule 10 2 false (1 + d7) (some (1 + d8)) (decide (d6 = 0))).theirs = 1 + d7 := rfl
        generalize newP false full trip rule 10 2 false (1 + d7) (some (1 + d8)) (decide (d6 = 0)) = P2 at *
        simp only [optN, show ((1 + d7 : Nat) : Int) = 1 + (d7 : Int) from by omega, show ((1 + d8 : Nat) : Int) = 1 + (d8 : Int) from by omega] at x2 f2
        have th' : (P2.theirs : Int) = 1 + (d7 : Int) := by omega
        simp -implicitDefEqProofs -dsimp [x2, el, f2, z1, s2, th']
        exact ⟨t7, cls, _, _, _, _, _, rfl, rfl⟩
  · rintro e ⟨t, cls, y5, y6, y7, y8, y9, h1, rfl⟩
    simp -implicitDefEqProofs -dsimp
    refine draw_go hd (hdr h5) (by omega) (by omega) fun d6 t6 q6 => ?_
    have r1 := rng1_items (n := 1 + d6) (by omega) []
    rw [show ((1 + d6 : Nat) : Int) = 1 + (d6 : Int) from by omega] at r1
    simp -implicitDefEqProofs -dsimp [r1]
    refine comp_dr (fun v => ∃ p : Pth, v = p.lx ∧ p.rule.length = 4 ∧ p.resp.length ≤ 5) (fun v hv t => ?_) fun vs t7 env' hl hvs he => ?_
    · obtain ⟨j, _, rfl⟩ := List.mem_map.mp hv
      simp -implicitDefEqProofs -dsimp
      refine some_path_go h5 full trip rule j fun p t8 hp1 hp2 => ?_
      simp -implicitDefEqProofs -dsimp
      exact ⟨⟨p, rfl, by rw [hp1, hr], hp2⟩, t8, rfl⟩
    · obtain ⟨ps, rfl, hps⟩ := lxs_of hvs
      simp at hl
      have ok : PsOk ps := ⟨by omega, fun p hp => ⟨by have := (hps p hp).1; omega, (hps p hp).2⟩⟩
      simp -implicitDefEqProofs -dsimp [he, restP_1]
      refine draw_go hd (hdr h5) (by omega) (by omega) fun d8 t8 q8 => ?_
      simp -implicitDefEqProofs -dsimp [rng2_items d8 (by omega)]
      refine comp_map (fun i : Nat => MV.int ((1 + d8 + i : Nat) : Int)) (fun i => prM (1 + d8 + i, 40 + (1 + d8 + i))) (List.range (4 - d8)) rfl (fun i hi => by simp -implicitDefEqProofs -dsimp [prM]; try omega) fun env' he => ?_
      simp -implicitDefEqProofs -dsimp [he, restP_1]
      have ei : MV.tup [MV.tup [MV.tup [MV.int 0, MV.int 5]], MV.int 1, MV.tup ((List.range (4 - d8)).map fun i => prM (1 + d8 + i, 40 + (1 + d8 + i))), MV.tup [], MV.non] = Ids.mv ⟨[(0, 5)], 1, (List.range (4 - d8)).map fun i => (1 + d8 + i, 40 + (1 + d8 + i)), [], none⟩ := by
        simp [Ids.mv, prs, prM, optN]
      rw [ei]
      generalize (Ids.mk [(0, 5)] 1 ((List.range (4 - d8)).map fun i => (1 + d8 + i, 40 + (1 + d8 + i))) [] none) = ids
      rw [ps_for _ _ _ _ _ _ _ _ (useV_no _ rfl)]
      simp -implicitDefEqProofs -dsimp
      refine turns_ok hd (hdr h5) rfl (fun k args => h5 k _ args (by decide)) (k + 3) t8 7 (by omega) (by omega) fun zs t9 hz1 hz2 => ?_
      simp -implicitDefEqProofs -dsimp
      refine for_inv (fun its e => ∃ (t : Tp) (zs : List Nat) (y11 y13 y14 y15 y16 : Option PV), its = (zs.map fun z => .int (z : Nat)) ∧ (∀ z ∈ zs, z < 7) ∧ e = [some (.own (tp t)), some (.d (.int full)), some (.d (profM full trip)), some (.d (ruleM rule)), some (.d (.frl [.str "client", .str "server", .str "client", .str "server"])), y5, y6, y7, y8, y9, some (.d (.frl (ps.map Pth.lx))), y11, some (.d ids.mv), y13, y14, y15, y16])
        ⟨t9, zs, none, none, none, none, none, rfl, hz2, rfl⟩ ?_ ?_
      · rintro v vs e ⟨t, zs, y11, y13, y14, y15, y16, h1, h2, rfl⟩
        cases zs with
        | nil => simp at h1
        | cons z zs =>
          obtain ⟨rfl, rfl⟩ := List.cons.inj h1
          simp -implicitDefEqProofs -dsimp
          refine draw_go hd (hdr h5) (by omega) (by omega) fun d9 t9 q9 => ?_
          have hj : d9 < ps.length := by omega
          have e1 := at_ps hj
          simp -implicitDefEqProofs -dsimp
          refine draw_go hd (hdr h5) (by omega) (by omega) fun d10 t10 q10 => ?_
          generalize hp : ps[d9] = p at e1
          rcases hc : p.chal with _ | c
          · simp -implicitDefEqProofs -dsimp [e1, hc, chalM]
            refine draw_go hd (hdr h5) (by omega) (by omega) fun d11 t11 q11 => ?_
            have e2 : ∃ v : Nat, L2.atI [.int (d10 : Int), .int 0] (d11 : Int) = some (MV.int v) := by
              rcases (by omega : d11 = 0 ∨ d11 = 1) with rfl | rfl
              · exact ⟨d10, by simp⟩
              · exact ⟨0, by simp⟩
            obtain ⟨v, e2⟩ := e2
            have cp := p_cps h5 (k + 1) ps
            simp -implicitDefEqProofs -dsimp [e2, cp]
            refine some_path_go h5 full trip rule d9 fun p' t12 hp1 hp2 => ?_
            simp -implicitDefEqProofs -dsimp
            refine draw_go hd (hdr h5) (by omega) (by omega) fun d13 t13 q13 => ?_
            have hj2 : d13 < ps.length := by omega
            simp -implicitDefEqProofs -dsimp
            rw [setP_nat (xs := ps.map Pth.lx) _ _ (by simp) (by simpa using hj2)]
            have es : (ps.map Pth.lx).set d13 p'.lx = (ps.set d13 p').map Pth.lx := by rw [List.map_set]
            have ok2 : PsOk (ps.set d13 p') := ⟨by simpa using ok.1, fun q hq => by
              rcases List.mem_or_eq_of_mem_set hq with z | rfl
              · exact ok.2 q z
              · exact ⟨by rw [hp1]; omega, hp2⟩⟩
            have hj3 : d9 < (ps.set d13 p').length := by simpa using hj
            have aD := fun v full => ansD k z (h2 z List.mem_cons_self) ps d9 v full ids hj ok
            have aO := fun v full => ansO k z (h2 z List.mem_cons_self) (ps.set d13 p') d9 v full ids hj3 ok2
            rw [es]
            generalize (ps.set d13 p').map Pth.lx = qs at *
            have a1 := aD v full
            have a2 := aD (v + 1) (mn (full + 1) 80)
            have a3 := aO v full
            have a4 := aO (v + 1) (mn (full + 1) 80)
            rw [show ((v + 1 : Nat) : Int) = (v : Int) + 1 from by omega] at a2 a4
            simp -implicitDefEqProofs -dsimp
            rw [walk3 (k := k) a1 a2 a3 a4]
            simp -implicitDefEqProofs -dsimp
            exact ⟨t13, zs, _, _, _, _, _, rfl, fun q hq => h2 q (List.mem_cons_of_mem _ hq), rfl⟩
          · simp -implicitDefEqProofs -dsimp [e1, hc, chalM, prM]
            refine draw_go hd (hdr h5) (by omega) (by omega) fun d11 t11 q11 => ?_
            have e2 : ∃ v : Nat, L2.atI [.int (d10 : Int), .int (c.1 : Nat)] (d11 : Int) = some (MV.int v) := by
              rcases (by omega : d11 = 0 ∨ d11 = 1) with rfl | rfl
              · exact ⟨d10, by simp⟩
              · exact ⟨c.1, by simp⟩
            obtain ⟨v, e2⟩ := e2
            have cp := p_cps h5 (k + 1) ps
            simp -implicitDefEqProofs -dsimp [e2, cp]
            refine some_path_go h5 full trip rule d9 fun p' t12 hp1 hp2 => ?_
            simp -implicitDefEqProofs -dsimp
            refine draw_go hd (hdr h5) (by omega) (by omega) fun d13 t13 q13 => ?_
            have hj2 : d13 < ps.length := by omega
            simp -implicitDefEqProofs -dsimp
            rw [setP_nat (xs := ps.map Pth.lx) _ _ (by simp) (by simpa using hj2)]
            have es : (ps.map Pth.lx).set d13 p'.lx = (ps.set d13 p').map Pth.lx := by rw [List.map_set]
            have ok2 : PsOk (ps.set d13 p') := ⟨by simpa using ok.1, fun q hq => by
              rcases List.mem_or_eq_of_mem_set hq with z | rfl
              · exact ok.2 q z
              · exact ⟨by rw [hp1]; omega, hp2⟩⟩
            have hj3 : d9 < (ps.set d13 p').length := by simpa using hj
            have aD := fun v full => ansD k z (h2 z List.mem_cons_self) ps d9 v full ids hj ok
            have aO := fun v full => ansO k z (h2 z List.mem_cons_self) (ps.set d13 p') d9 v full ids hj3 ok2
            rw [es]
            generalize (ps.set d13 p').map Pth.lx = qs at *
            have a1 := aD v full
            have a2 := aD (v + 1) (mn (full + 1) 80)
            have a3 := aO v full
            have a4 := aO (v + 1) (mn (full + 1) 80)
            rw [show ((v + 1 : Nat) : Int) = (v : Int) + 1 from by omega] at a2 a4
            simp -implicitDefEqProofs -dsimp
            rw [walk3 (k := k) a1 a2 a3 a4]
            simp -implicitDefEqProofs -dsimp
            exact ⟨t13, zs, _, _, _, _, _, rfl, fun q hq => h2 q (List.mem_cons_of_mem _ hq), rfl⟩
      · rintro e ⟨t, zs, y11, y13, y14, y15, y16, h1, h2, rfl⟩
        simp -implicitDefEqProofs -dsimp
        exact K t
end K56
namespace K56
open PySem MP
theorem tape_go {k : Nat} (ns : List Int) {Q : PV × List (List MV) → Prop} (K : ∀ (t' : Tp), Q (.own (tp t'), [])) : Ok Q .mk (prun g hand5 (k + 1) "_law_tape" [.d (scriptM ns)]) := by
  rw [prun_d (i := fn_law_tape) rfl (h5 _ _ _ (by decide)) rfl rfl]; unfold fn_law_tape
  unfold scriptM
  simp -implicitDefEqProofs -dsimp
  rw [ps_for _ _ _ _ _ _ _ _ (useV_no _ rfl)]
  simp -implicitDefEqProofs -dsimp
  refine for_inv (fun its e => ∃ (xs : List Int) (n : Int) (y2 : Option PV), its = xs.map .int ∧ e = [some (.d (.frl (ns.map .int))), some (.d (.int n)), y2]) ⟨ns, 7, none, rfl, rfl⟩ ?_ ?_
  · rintro v vs e ⟨xs, n, y2, h1, rfl⟩
    cases xs with
    | nil => simp at h1
    | cons x xs =>
      obtain ⟨rfl, rfl⟩ := List.cons.inj h1
      simp -implicitDefEqProofs -dsimp
      exact ⟨xs, _, _, rfl, rfl⟩
  · rintro e ⟨xs, n, y2, h1, rfl⟩
    simp -implicitDefEqProofs -dsimp
    exact K ⟨ns, 0, 0, n⟩
theorem law_go (ns : List Int) : prun g hand5 40 "law" [.d (scriptM ns)] = some (.d (.bl true), []) := by
  rw [prun_d (i := fn_law) rfl (h5 _ _ _ (by decide)) rfl rfl]; unfold fn_law
  apply eq_of_ok
  simp -implicitDefEqProofs -dsimp
  refine tape_go (k := 38) ns fun t1 => ?_
  simp -implicitDefEqProofs -dsimp
  refine vault_go h5 (k := 37) fun v t2 hv => ?_
  simp -implicitDefEqProofs -dsimp
  refine ring_go h5 (k := 37) (by have := hv.s; omega) fun r t3 hr => ?_
  have hr' : r.keys.length ≤ 1000 := by have := hv.s; omega
  simp -implicitDefEqProofs -dsimp
  rw [ps_for _ _ _ _ _ _ _ _ (useV_no _ rfl)]
  simp -implicitDefEqProofs -dsimp
  refine turns_ok hd (hdr h5) rfl (fun k args => h5 k _ args (by decide)) 37 t3 5 (by omega) (by omega) fun zs t4 hz1 hz2 => ?_
  simp -implicitDefEqProofs -dsimp
  refine for_inv (fun its e => ∃ (t : Tp) (zs : List Nat) (y4 : Option PV), its = (zs.map fun z => .int (z : Nat)) ∧ (∀ z ∈ zs, z < 5) ∧ e = [some (.d (scriptM ns)), some (.own (tp t)), some (.d v.mv), some (.d r.mv), y4])
    ⟨t4, zs, none, rfl, hz2, rfl⟩ ?_ ?_
  · rintro x vs e ⟨t, zs, y4, h1, h2, rfl⟩
    cases zs with
    | nil => simp at h1
    | cons z zs =>
      obtain ⟨rfl, rfl⟩ := List.cons.inj h1
      have h3 := h2 z List.mem_cons_self
      have h4 : ∀ z ∈ zs, z < 5 := fun q hq => h2 q (List.mem_cons_of_mem _ hq)
      rcases (by omega : z = 0 ∨ z = 1 ∨ z = 2 ∨ z = 3 ∨ z = 4) with rfl | rfl | rfl | rfl | rfl
      · simp -implicitDefEqProofs -dsimp
        refine reads_go h5 (k := 31) hv fun t5 => ?_
        simp -implicitDefEqProofs -dsimp
        exact ⟨t5, zs, _, rfl, h4, rfl⟩
      · simp -implicitDefEqProofs -dsimp
        refine makes_go h5 (k := 31) hv hr' fun t5 => ?_
        simp -implicitDefEqProofs -dsimp
        exact ⟨t5, zs, _, rfl, h4, rfl⟩
      · simp -implicitDefEqProofs -dsimp
        refine routes_go h5 (k := 31) hv fun t5 => ?_
        simp -implicitDefEqProofs -dsimp
        exact ⟨t5, zs, _, rfl, h4, rfl⟩
      · simp -implicitDefEqProofs -dsimp
        refine life_go h5 (k := 33) fun t5 => ?_
        simp -implicitDefEqProofs -dsimp
        exact ⟨t5, zs, _, rfl, h4, rfl⟩
      · simp -implicitDefEqProofs -dsimp
        refine doors_go (k := 33) fun t5 => ?_
        simp -implicitDefEqProofs -dsimp
        exact ⟨t5, zs, _, rfl, h4, rfl⟩
  · rintro e ⟨t, zs, y4, h1, h2, rfl⟩
    simp -implicitDefEqProofs -dsimp
theorem law_true (ns : List Int) (hl : ns.length ≤ 63) : ∃ h', MP.run K56.g 40 "law" [MP.scriptM ns] [] = some (.bl true, h') := by
  obtain ⟨h', e⟩ := law_run h5_ok (law_go ns)
  exact ⟨h', e⟩
end K56
open PySem PySem.W PyProof.Rows in
theorem PySem.Challenge.cw_sealedlink_k56_identifiers_balancers_pat_holds : PySem.Challenge.rw_sealedlink_k56_identifiers_balancers_pat.Holds := by
  w_on; o_law; x_head; (case hw => w_witness2)
  k_fill
  refine MP.walk_adj (ps := [111, 118]) (l := PySem.Challenge.rw_sealedlink_k56_identifiers_balancers_pat) (n := 63) (k := 40) (x := "script") (CX := fun _ => L2.CX0) rfl (by decide) rfl ⟨rfl, by decide, by decide⟩ (fun w h Y => PySem.W.kIn_of Y) ?F (fun _ _ _ _ _ h => h)
  case F =>
    intro w mg fa h Y KX G hmg
    have KY := PySem.W.kIn_of Y
    refine' Exists.elim (K56.fin (P := (PySem.Challenge.rw_sealedlink_k56_identifiers_balancers_pat).prog) (w := w) (cs := [(115, 111), (122, 118)]) 39 KX G hmg ?d0 ?d1 ?d2 ?d3 ?d4 ?d5 ?d6 ?d7 ?d8 ?d9 ?d10 ?d11 ?d12 ?d13 ?m14 ?d14 ?m15 ?d15 ?d16 ?d17 ?d18 ?d19 ?d20 ?d21 ?d22 ?d23 ?d24 ?d25 ?d26 ?d27 ?d28 ?d29 ?d30 ?d31 ?d32 ?d33 ?d34 ?d35 ?d36 ?d37 ?d38 ?d39 ?d40 ?d41 ?d42 ?d43 ?d44 ?d45 ?d46 ?d47 ?d48 ?d49 ?d50 ?d51 ?d52 ?d53 ?d54 ?d55 ?d56 ?d57 ?d58 ?d59 ?c0 ?c1 ?c2 ?c3 ?c4 ?c5 ?c6 ?c7 ?c8 ?c9 ?c10 ?c11 ?c12 ?c13 ?c14 ?c15 ?c16 ?c17 ?c18 ?c19 ?c20 ?c21 ?b0 ?b1 ?b2 ?b3 ?b4 ?b5 ?b6 ?b7 ?b8 ?b9 ?b10 ?b11 ?b12 ?b13 ?b14 ?b15) ?z
    (case d0 => refine' MP.defAtA ?e1 ?e2 ?e3 ?e4; (case e1 => k_is); (case e2 => k_is); (case e3 => k_is); (case e4 => decide))
    (case d1 => refine' MP.defAtA ?e1 ?e2 ?e3 ?e4; (case e1 => k_is); (case e2 => k_is); (case e3 => k_is); (case e4 => decide))
    (case d2 => refine' MP.defAtA ?e1 ?e2 ?e3 ?e4; (case e1 => k_is); (case e2 => k_is); (case e3 => k_is); (case e4 => decide))
    (case d3 => refine' MP.defAtA ?e1 ?e2 ?e3 ?e4; (case e1 => k_is); (case e2 => k_is); (case e3 => k_is); (case e4 => decide))
    (case d4 => refine' MP.defAtA ?e1 ?e2 ?e3 ?e4; (case e1 => k_is); (case e2 => k_is); (case e3 => k_is); (case e4 => decide))
    (case d5 => refine' MP.defAtA ?e1 ?e2 ?e3 ?e4; (case e1 => k_is); (case e2 => k_is); (case e3 => k_is); (case e4 => decide))
    (case d6 => refine' MP.defAtA ?e1 ?e2 ?e3 ?e4; (case e1 => k_is); (case e2 => k_is); (case e3 => k_is); (case e4 => decide))
    (case d7 => refine' MP.defAtA ?e1 ?e2 ?e3 ?e4; (case e1 => k_is); (case e2 => k_is); (case e3 => k_is); (case e4 => decide))
    (case d8 => refine' MP.defAtA ?e1 ?e2 ?e3 ?e4; (case e1 => k_is); (case e2 => k_is); (case e3 => k_is); (case e4 => decide))
    (case d9 => refine' MP.defAtA ?e1 ?e2 ?e3 ?e4; (case e1 => k_is); (case e2 => k_is); (case e3 => k_is); (case e4 => decide))
    (case d10 => refine' MP.defAtA ?e1 ?e2 ?e3 ?e4; (case e1 => k_is); (case e2 => k_is); (case e3 => k_is); (case e4 => decide))
    (case d11 => refine' MP.defAtA ?e1 ?e2 ?e3 ?e4; (case e1 => k_is); (case e2 => k_is); (case e3 => k_is); (case e4 => decide))
    (case d12 => refine' MP.defAtA ?e1 ?e2 ?e3 ?e4; (case e1 => k_is); (case e2 => k_is); (case e3 => k_is); (case e4 => decide))
    (case d13 => refine' MP.defAtA ?e1 ?e2 ?e3 ?e4; (case e1 => k_is); (case e2 => k_is); (case e3 => k_is); (case e4 => decide))
    (case m14 => exact List.mem_of_getElem? (i := 0) rfl)
    (case d14 => refine' MP.defGA ?e1 ?e2 ?e3 ?e4; (case e1 => k_is); (case e2 => k_is); (case e3 => k_is); (case e4 => decide))
    (case m15 => exact List.mem_of_getElem? (i := 1) rfl)
    (case d15 => refine' MP.defGA ?e1 ?e2 ?e3 ?e4; (case e1 => k_is); (case e2 => k_is); (case e3 => k_is); (case e4 => decide))
    (case d16 => refine' MP.defAtA ?e1 ?e2 ?e3 ?e4; (case e1 => k_is); (case e2 => k_is); (case e3 => k_is); (case e4 => decide))
    (case d17 => refine' MP.defAtA ?e1 ?e2 ?e3 ?e4; (case e1 => k_is); (case e2 => k_is); (case e3 => k_is); (case e4 => decide))
    (case d18 => refine' MP.defAtA ?e1 ?e2 ?e3 ?e4; (case e1 => k_is); (case e2 => k_is); (case e3 => k_is); (case e4 => decide))
    (case d19 => refine' MP.defAtA ?e1 ?e2 ?e3 ?e4; (case e1 => k_is); (case e2 => k_is); (case e3 => k_is); (case e4 => decide))
    (case d20 => refine' MP.defAtA ?e1 ?e2 ?e3 ?e4; (case e1 => k_is); (case e2 => k_is); (case e3 => k_is); (case e4 => decide))
    (case d21 => refine' MP.defAtA ?e1 ?e2 ?e3 ?e4; (case e1 => k_is); (case e2 => k_is); (case e3 => k_is); (case e4 => decide))
    (case d22 => refine' MP.defAtA ?e1 ?e2 ?e3 ?e4; (case e1 => k_is); (case e2 => k_is); (case e3 => k_is); (case e4 => decide))
    (case d23 => refine' MP.defAtA ?e1 ?e2 ?e3 ?e4; (case e1 => k_is); (case e2 => k_is); (case e3 => k_is); (case e4 => decide))
    (case d24 => refine' MP.defAtA ?e1 ?e2 ?e3 ?e4; (case e1 => k_is); (case e2 => k_is); (case e3 => k_is); (case e4 => decide))
    (case d25 => refine' MP.defAtA ?e1 ?e2 ?e3 ?e4; (case e1 => k_is); (case e2 => k_is); (case e3 => k_is); (case e4 => decide))
    (case d26 => refine' MP.defAtA ?e1 ?e2 ?e3 ?e4; (case e1 => k_is); (case e2 => k_is); (case e3 => k_is); (case e4 => decide))
    (case d27 => refine' MP.defAtA ?e1 ?e2 ?e3 ?e4; (case e1 => k_is); (case e2 => k_is); (case e3 => k_is); (case e4 => decide))
    (case d28 => refine' MP.defAtA ?e1 ?e2 ?e3 ?e4; (case e1 => k_is); (case e2 => k_is); (case e3 => k_is); (case e4 => decide))
    (case d29 => refine' MP.defAtA ?e1 ?e2 ?e3 ?e4; (case e1 => k_is); (case e2 => k_is); (case e3 => k_is); (case e4 => decide))
    (case d30 => refine' MP.defAtA ?e1 ?e2 ?e3 ?e4; (case e1 => k_is); (case e2 => k_is); (case e3 => k_is); (case e4 => decide))
    (case d31 => refine' MP.defAtA ?e1 ?e2 ?e3 ?e4; (case e1 => k_is); (case e2 => k_is); (case e3 => k_is); (case e4 => decide))
    (case d32 => refine' MP.defAtA ?e1 ?e2 ?e3 ?e4; (case e1 => k_is); (case e2 => k_is); (case e3 => k_is); (case e4 => decide))
    (case d33 => refine' MP.defAtA ?e1 ?e2 ?e3 ?e4; (case e1 => k_is); (case e2 => k_is); (case e3 => k_is); (case e4 => decide))
    (case d34 => refine' MP.defAtA ?e1 ?e2 ?e3 ?e4; (case e1 => k_is); (case e2 => k_is); (case e3 => k_is); (case e4 => decide))
    (case d35 => refine' MP.defAtA ?e1 ?e2 ?e3 ?e4; (case e1 => k_is); (case e2 => k_is); (case e3 => k_is); (case e4 => decide))
    (case d36 => refine' MP.defAtA ?e1 ?e2 ?e3 ?e4; (case e1 => k_is); (case e2 => k_is); (case e3 => k_is); (case e4 => decide))
    (case d37 => refine' MP.defAtA ?e1 ?e2 ?e3 ?e4; (case e1 => k_is); (case e2 => k_is); (case e3 => k_is); (case e4 => decide))
    (case d38 => refine' MP.defAtA ?e1 ?e2 ?e3 ?e4; (case e1 => k_is); (case e2 => k_is); (case e3 => k_is); (case e4 => decide))
    (case d39 => refine' MP.defAtA ?e1 ?e2 ?e3 ?e4; (case e1 => k_is); (case e2 => k_is); (case e3 => k_is); (case e4 => decide))
    (case d40 => refine' MP.defAtA ?e1 ?e2 ?e3 ?e4; (case e1 => k_is); (case e2 => k_is); (case e3 => k_is); (case e4 => decide))
    (case d41 => refine' MP.defAtA ?e1 ?e2 ?e3 ?e4; (case e1 => k_is); (case e2 => k_is); (case e3 => k_is); (case e4 => decide))
    (case d42 => refine' MP.defAtA ?e1 ?e2 ?e3 ?e4; (case e1 => k_is); (case e2 => k_is); (case e3 => k_is); (case e4 => decide))
    (case d43 => refine' MP.defAtA ?e1 ?e2 ?e3 ?e4; (case e1 => k_is); (case e2 => k_is); (case e3 => k_is); (case e4 => decide))
    (case d44 => refine' MP.defAtA ?e1 ?e2 ?e3 ?e4; (case e1 => k_is); (case e2 => k_is); (case e3 => k_is); (case e4 => decide))
    (case d45 => refine' MP.defAtA ?e1 ?e2 ?e3 ?e4; (case e1 => k_is); (case e2 => k_is); (case e3 => k_is); (case e4 => decide))
    (case d46 => refine' MP.defAtA ?e1 ?e2 ?e3 ?e4; (case e1 => k_is); (case e2 => k_is); (case e3 => k_is); (case e4 => decide))
    (case d47 => refine' MP.defAtA ?e1 ?e2 ?e3 ?e4; (case e1 => k_is); (case e2 => k_is); (case e3 => k_is); (case e4 => decide))
    (case d48 => refine' MP.defAtA ?e1 ?e2 ?e3 ?e4; (case e1 => k_is); (case e2 => k_is); (case e3 => k_is); (case e4 => decide))
    (case d49 => refine' MP.defAtA ?e1 ?e2 ?e3 ?e4; (case e1 => k_is); (case e2 => k_is); (case e3 => k_is); (case e4 => decide))
    (case d50 => refine' MP.defAtA ?e1 ?e2 ?e3 ?e4; (case e1 => k_is); (case e2 => k_is); (case e3 => k_is); (case e4 => decide))
    (case d51 => refine' MP.defAtA ?e1 ?e2 ?e3 ?e4; (case e1 => k_is); (case e2 => k_is); (case e3 => k_is); (case e4 => decide))
    (case d52 => refine' MP.defAtA ?e1 ?e2 ?e3 ?e4; (case e1 => k_is); (case e2 => k_is); (case e3 => k_is); (case e4 => decide))
    (case d53 => refine' MP.defAtA ?e1 ?e2 ?e3 ?e4; (case e1 => k_is); (case e2 => k_is); (case e3 => k_is); (case e4 => decide))
    (case d54 => refine' MP.defAtA ?e1 ?e2 ?e3 ?e4; (case e1 => k_is); (case e2 => k_is); (case e3 => k_is); (case e4 => decide))
    (case d55 => refine' MP.defAtA ?e1 ?e2 ?e3 ?e4; (case e1 => k_is); (case e2 => k_is); (case e3 => k_is); (case e4 => decide))
    (case d56 => refine' MP.defAtA ?e1 ?e2 ?e3 ?e4; (case e1 => k_is); (case e2 => k_is); (case e3 => k_is); (case e4 => decide))
    (case d57 => refine' MP.defAtA ?e1 ?e2 ?e3 ?e4; (case e1 => k_is); (case e2 => k_is); (case e3 => k_is); (case e4 => decide))
    (case d58 => refine' MP.defAtA ?e1 ?e2 ?e3 ?e4; (case e1 => k_is); (case e2 => k_is); (case e3 => k_is); (case e4 => decide))
    (case d59 => refine' MP.defAtA ?e1 ?e2 ?e3 ?e4; (case e1 => k_is); (case e2 => k_is); (case e3 => k_is); (case e4 => decide))
    (case c0 => refine' MP.cnTup1A ?e1 ?e2 (by decide) ?e4; (case e1 => k_is); (case e2 => k_is); (case e4 => decide))
    (case c1 => refine' MP.cnIntA ?e1 (by decide); (case e1 => k_is))
    (case c2 => refine' MP.cnIntA ?e1 (by decide); (case e1 => k_is))
    (case c3 => refine' MP.cnIntA ?e1 (by decide); (case e1 => k_is))
    (case c4 => refine' MP.cnIntA ?e1 (by decide); (case e1 => k_is))
    (case c5 => refine' MP.cnIntA ?e1 (by decide); (case e1 => k_is))
    (case c6 => refine' MP.cnIntA ?e1 (by decide); (case e1 => k_is))
    (case c7 => refine' MP.cnIntA ?e1 (by decide); (case e1 => k_is))
    (case c8 => refine' MP.cnIntA ?e1 (by decide); (case e1 => k_is))
    (case c9 => refine' MP.cnIntA ?e1 (by decide); (case e1 => k_is))
    (case c10 => refine' MP.cnIntA ?e1 (by decide); (case e1 => k_is))
    (case c11 => refine' MP.cnIntA ?e1 (by decide); (case e1 => k_is))
    (case c12 => refine' MP.cnIntA ?e1 (by decide); (case e1 => k_is))
    (case c13 => refine' MP.cnIntA ?e1 (by decide); (case e1 => k_is))
    (case c14 => refine' MP.cnIntA ?e1 (by decide); (case e1 => k_is))
    (case c15 => refine' MP.cnIntA ?e1 (by decide); (case e1 => k_is))
    (case c16 => refine' MP.cnIntA ?e1 (by decide); (case e1 => k_is))
    (case c17 => refine' MP.cnIntA ?e1 (by decide); (case e1 => k_is))
    (case c18 => refine' MP.cnIntA ?e1 (by decide); (case e1 => k_is))
    (case c19 => refine' MP.cnIntA ?e1 (by decide); (case e1 => k_is))
    (case c20 => refine' MP.cnIntA ?e1 (by decide); (case e1 => k_is))
    (case c21 => refine' MP.cnIntA ?e1 (by decide); (case e1 => k_is))
    (case b0 => refine' MP.nsA ?e1 (by decide); (case e1 => k_is))
    (case b1 => refine' MP.nsA ?e1 (by decide); (case e1 => k_is))
    (case b2 => refine' MP.nsA ?e1 (by decide); (case e1 => k_is))
    (case b3 => refine' MP.nsA ?e1 (by decide); (case e1 => k_is))
    (case b4 => refine' MP.nsA ?e1 (by decide); (case e1 => k_is))
    (case b5 => refine' MP.nsA ?e1 (by decide); (case e1 => k_is))
    (case b6 => refine' MP.nsA ?e1 (by decide); (case e1 => k_is))
    (case b7 => refine' MP.nsA ?e1 (by decide); (case e1 => k_is))
    (case b8 => refine' MP.nsA ?e1 (by decide); (case e1 => k_is))
    (case b9 => refine' MP.nsA ?e1 (by decide); (case e1 => k_is))
    (case b10 => refine' MP.nsA ?e1 (by decide); (case e1 => k_is))
    (case b11 => refine' MP.nsA ?e1 (by decide); (case e1 => k_is))
    (case b12 => refine' MP.nsA ?e1 (by decide); (case e1 => k_is))
    (case b13 => refine' MP.nsA ?e1 (by decide); (case e1 => k_is))
    (case b14 => refine' MP.nsA ?e1 (by decide); (case e1 => k_is))
    (case b15 => refine' MP.nsA ?e1 (by decide); (case e1 => k_is))
    case z =>
      rintro fd ⟨hb, F⟩
      refine' MP.lawAtS_of (ps := [111, 118]) (cs := [(115, 111), (122, 118)]) (i := K56.fn_law) rfl (MP.without_ne (a := 115) (by decide) ?hw) ?hnl ?hT ?hC hb rfl rfl F (fun ns hl => K56.law_true ns hl)
      (case hw => k_is)
      (case hnl => first | rfl | decide +kernel | k_is)
      (case hT => refine' (List.forall_mem_cons.2 ⟨KY _ _ ?t0, (List.forall_mem_cons.2 ⟨KY _ _ ?t1, fun _ z => absurd z (List.not_mem_nil)⟩)⟩); all_goals k_is)
      (case hC => refine' (List.forall_mem_cons.2 ⟨MP.codeHd_o KY ?u0 ?v0, (List.forall_mem_cons.2 ⟨MP.codeHd_o KY ?u1 ?v1, fun _ z => absurd z (List.not_mem_nil)⟩)⟩); (case u0 => k_is); (case u1 => k_is); all_goals (first | rfl | decide +kernel | k_is))
