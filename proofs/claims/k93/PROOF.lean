import PyProof.Rows.All
import Wide.All
import OpenK.AllK
import Wide.FinOn
import HandS.ForMost
import HandS.TupAny
import HandS.Wide
import HandS.Conv
import HandS.Walk
import HandS.Flow
import HandS.IsInst
import PySem.Challenge.RW_sealedlink_k93_links_and_the_worst_wait
set_option Elab.async false
set_option linter.all false
set_option maxRecDepth 100000
set_option maxHeartbeats 4000000
namespace MP
open PySem
/-- a value: tuples and the frozen list (the script) stand as trees, lists by their place -/
inductive MV where
  | non | bl (b : Bool) | int (i : Int) | str (x : Str) | tup (xs : List MV) | frl (xs : List MV) | ref (n : Nat)
  deriving Inhabited
inductive MO where
  | lst (xs : List MV)
abbrev MH := List MO
mutual
/-- every place within is below n -/
def MV.lt (n : Nat) : MV → Prop
  | .ref k => k < n
  | .tup xs => ltAll n xs
  | .frl xs => ltAll n xs
  | _ => True
def ltAll (n : Nat) : List MV → Prop
  | [] => True
  | x :: xs => MV.lt n x ∧ ltAll n xs
end
def MO.lt (n : Nat) : MO → Prop
  | .lst xs => ltAll n xs
inductive BOp | add | sub | mul | mod | fdiv | pow
  deriving DecidableEq
inductive COp | lt | le | gt | ge | eq | ne | isN | notN | isin | notin
  deriving DecidableEq
inductive TyN | int | bool | str | tuple | list
  deriving DecidableEq
/-- how an iterable is made -/
inductive IK | ex | rng1 | rng2
  deriving DecidableEq
/-- built-in calls -/
inductive Bi | len | int | abs | max | min | sum | all | any | list | tuple
  deriving DecidableEq
/-- methods -/
inductive Me | append | pop
  deriving DecidableEq
inductive Tg where
  | nm (i : Nat) | tup (ts : List Tg)
inductive E where
  | var (i : Nat) | non | bl (b : Bool) | int (i : Int) | str (x : Str)
  | glob (x : Str)
  | tup (es : List E) | lst (es : List E)
  | bin (o : BOp) (a b : E) | neg (a : E)
  | cmp (o : COp) (a b : E) | chain (o1 o2 : COp) (a b c : E)
  | and (a b : E) | or (a b : E) | not (a : E)
  | ife (c a b : E)
  | idx (a i : E) | slice (a lo hi : E)
  | call (f : Str) (es : List E)
  | bi (f : Bi) (es : List E)
  | isi (a : E) (t : TyN)
  | meth (m : Me) (o : E) (es : List E)
  | comp (elt : E) (t : Tg) (k : IK) (es : List E) (cs : List E) (own : List (Str × Nat))
  | lrng (k : IK) (es : List E)
inductive S where
  | asg (t : Tg) (e : E)
  | setIx (o i e : E)
  | aug (i : Nat) (o : BOp) (e : E)
  | ex (e : E)
  | ret (e : E)
  | retN
  | ite (c : E) (a b : List S)
  | for_ (t : Tg) (k : IK) (es : List E) (body : List S)
  | while_ (c : E) (body : List S)
  | brk | cont | pass
structure FnI where
  np : Nat
  names : List Str
  body : List S
structure Mod where
  fns : List (Str × FnI)
  cns : List (Str × MV)
abbrev Env := List (Option MV)
abbrev R := Option (MV × MH)
/-- the largest size of a sequence -/
abbrev LIM : Nat := 16777216
mutual
def toD : MV → Option PyData
  | .non => some .none
  | .bl b => some (.bool b)
  | .int i => some (.int i)
  | .str x => some (.str x)
  | .tup xs => (toDs xs).map .tuple
  | .frl xs => (toDs xs).map .list
  | .ref _ => none
def toDs : List MV → Option (List PyData)
  | [] => some []
  | x :: xs => (toD x).bind fun d => (toDs xs).map fun ds => d :: ds
end
def eqM (a b : MV) : Option Bool := (toD a).bind fun d => (toD b).bind fun e => if SeqAt.shaped d = true ∧ SeqAt.shaped e = true then some (PyData.eqv d e) else none
def flatM : MV → Bool
  | .non => true | .bl _ => true | .int _ => true | .str _ => true | _ => false
def eqF : MV → MV → Bool
  | .non, .non => true
  | .bl a, .bl b => a == b
  | .bl a, .int b => (if a = true then 1 else 0) == b
  | .int a, .bl b => a == if b = true then 1 else 0
  | .int a, .int b => a == b
  | .str a, .str b => a == b
  | _, _ => false
def seqM (h : MH) : MV → Option (List MV)
  | .tup xs => some xs
  | .frl xs => some xs
  | .ref p => match h[p]? with
    | some (.lst xs) => some xs
    | none => none
  | _ => none
def inM (h : MH) (a b : MV) : Option Bool := (seqM h b).bind fun xs => if flatM a = true ∧ xs.all flatM = true then some (xs.any fun y => eqF y a) else none
def truth (h : MH) : MV → Option Bool
  | .non => some false
  | .bl b => some b
  | .int i => some (i != 0)
  | .str z => some ((z.length : Int) != 0)
  | .tup xs => some (!xs.isEmpty)
  | .frl xs => some (!xs.isEmpty)
  | .ref p => match h[p]? with
    | some (.lst xs) => some (!xs.isEmpty)
    | none => none
def cmpM (o : COp) (h : MH) (a b : MV) : Option Bool :=
  match o with
  | .lt => match a, b with | .int i, .int j => some (decide (i < j)) | _, _ => none
  | .le => match a, b with | .int i, .int j => some (decide (i ≤ j)) | _, _ => none
  | .gt => match a, b with | .int i, .int j => some (decide (j < i)) | _, _ => none
  | .ge => match a, b with | .int i, .int j => some (decide (j ≤ i)) | _, _ => none
  | .eq => eqM a b
  | .ne => (eqM a b).map (!·)
  | .isN => match b with | .non => some (match a with | .non => true | _ => false) | _ => none
  | .notN => match b with | .non => some (match a with | .non => false | _ => true) | _ => none
  | .isin => inM h a b
  | .notin => (inM h a b).map (!·)
def binM (o : BOp) (h : MH) (a b : MV) : R :=
  match o with
  | .add => match a, b with
    | .int i, .int j => some (.int (i + j), h)
    | .str x, .str y => if x.length + y.length ≤ LIM then some (.str (x ++ y), h) else none
    | .tup xs, .tup ys => if xs.length + ys.length ≤ LIM then some (.tup (xs ++ ys), h) else none
    | .ref p, .ref q => match h[p]?, h[q]? with
      | some (.lst xs), some (.lst ys) => if xs.length + ys.length ≤ LIM then some (.ref h.length, h ++ [.lst (xs ++ ys)]) else none
      | _, _ => none
    | _, _ => none
  | .sub => match a, b with | .int i, .int j => some (.int (i - j), h) | _, _ => none
  | .mul => match a, b with | .int i, .int j => if ((-18446744073709551616 < i ∧ i < 18446744073709551616) ∨ (-18446744073709551616 < j ∧ j < 18446744073709551616)) ∨ i.natAbs.log2 + j.natAbs.log2 < 1000000 then some (.int (i * j), h) else none | _, _ => none
  | .mod => match a, b with | .int i, .int j => if 0 < j then some (.int (i % j), h) else none | _, _ => none
  | .fdiv => match a, b with | .int i, .int j => if 0 < j ∧ j.natAbs.log2 < 9000 then some (.int (i / j), h) else none | _, _ => none
  | .pow => match a, b with | .int i, .int j => if 0 ≤ j ∧ j ≤ 1000000 ∧ i.natAbs < 18446744073709551616 then some (.int (i ^ j.toNat), h) else none | _, _ => none
def atM (h : MH) (a i : MV) : Option MV := match i with
  | .int j => match a with
    | .str z => (L2.atI z.cps.toList j).map fun c => .str ⟨#[c]⟩
    | a => (seqM h a).bind fun xs => L2.atI xs j
  | _ => none
def cutM (xs : List MV) (lo hi : Option Int) : List MV := (xs.drop (HT.sIx xs.length 0 lo)).take (HT.sIx xs.length xs.length hi - HT.sIx xs.length 0 lo)
/-- a slice's part, absent or an int -/
def partM (absent : Bool) (v : MV) : Option (Option Int) := match absent with
  | true => some none
  | false => match v with
    | .int i => some (some i)
    | _ => none
def sliceM (h : MH) (a : MV) (l u : Option Int) : R := match a with
  | .tup xs => some (.tup (cutM xs l u), h)
  | .ref p => match h[p]? with
    | some (.lst xs) => some (.ref h.length, h ++ [.lst (cutM xs l u)])
    | none => none
  | _ => none
def E.isNon : E → Bool
  | .non => true
  | _ => false
def negM (x : MV × MH) : R := match x.1 with
  | .int i => some (.int (-i), x.2)
  | _ => none
def isiM (h : MH) (a : MV) (t : TyN) : Option Bool := match a, t with
  | .non, _ => some false
  | .bl _, .bool => some true
  | .bl _, .int => some true
  | .bl _, _ => some false
  | .int _, .int => some true
  | .int _, _ => some false
  | .str _, .str => some true
  | .str _, _ => some false
  | .tup _, .tuple => some true
  | .tup _, _ => some false
  | .frl _, .list => some true
  | .frl _, _ => some false
  | .ref p, t => match h[p]? with
    | some (.lst _) => some (t = .list)
    | none => none
def intsM : List MV → Option (List Int)
  | [] => some []
  | .int i :: xs => (intsM xs).map (i :: ·)
  | _ => none
def blsM : List MV → Option (List Bool)
  | [] => some []
  | .bl i :: xs => (blsM xs).map (i :: ·)
  | _ => none
/-- a greatest item -/
def maxL : List Int → Int
  | [] => 0
  | [x] => x
  | x :: y :: r => if maxL (y :: r) > x then maxL (y :: r) else x
def minL : List Int → Int
  | [] => 0
  | [x] => x
  | x :: y :: r => if minL (y :: r) < x then minL (y :: r) else x
def lstM (h : MH) : MV → Option (List MV)
  | .frl xs => some xs
  | .ref p => match h[p]? with
    | some (.lst xs) => some xs
    | none => none
  | _ => none
def lenM (h : MH) : List MV → R
  | [.str x] => some (.int x.length, h)
  | [v] => (seqM h v).map fun xs => (.int xs.length, h)
  | _ => none
def intM (h : MH) : List MV → R
  | [.int i] => some (.int i, h)
  | [.bl b] => some (.int (if b = true then 1 else 0), h)
  | _ => none
def absM (h : MH) : List MV → R
  | [.int i] => some (.int (if i < 0 then -i else i), h)
  | _ => none
def maxM (h : MH) : List MV → R
  | [.int i, .int j] => some (.int (if j > i then j else i), h)
  | [v] => (lstM h v).bind fun xs => (intsM xs).bind fun ns => if ns = [] then none else some (.int (maxL ns), h)
  | _ => none
def minM (h : MH) : List MV → R
  | [.int i, .int j] => some (.int (if j < i then j else i), h)
  | [v] => (lstM h v).bind fun xs => (intsM xs).bind fun ns => if ns = [] then none else some (.int (minL ns), h)
  | _ => none
def sumM (h : MH) : List MV → R
  | [v] => (lstM h v).bind fun xs => (intsM xs).map fun ns => (.int ns.sum, h)
  | _ => none
def allM (h : MH) : List MV → R
  | [v] => (lstM h v).bind fun xs => (blsM xs).map fun ns => (.bl (ns.all id), h)
  | _ => none
def anyM (h : MH) : List MV → R
  | [v] => (lstM h v).bind fun xs => (blsM xs).map fun ns => (.bl (ns.any id), h)
  | _ => none
def listM (h : MH) : List MV → R
  | [v] => (seqM h v).map fun xs => (.ref h.length, h ++ [.lst xs])
  | _ => none
def tupleM (h : MH) : List MV → R
  | [v] => (seqM h v).map fun xs => (.tup xs, h)
  | _ => none
def biM (f : Bi) (h : MH) (vs : List MV) : R := match f with
  | .len => lenM h vs | .int => intM h vs | .abs => absM h vs | .max => maxM h vs | .min => minM h vs
  | .sum => sumM h vs | .all => allM h vs | .any => anyM h vs | .list => listM h vs | .tuple => tupleM h vs
def appendM (h : MH) (p : Nat) : List MV → R
  | [v] => match h[p]? with
    | some (.lst xs) => if xs.length < LIM then some (.non, h.set p (.lst (xs ++ [v]))) else none
    | none => none
  | _ => none
def popM (h : MH) (p : Nat) : List MV → R
  | [.int i] => match h[p]? with
    | some (.lst xs) => if -(2 ^ 63) ≤ i ∧ i < 2 ^ 63 then (L2.ixN xs.length i).bind fun k => (xs[k]?).map fun y => (y, h.set p (.lst (xs.eraseIdx k))) else none
    | none => none
  | [] => match h[p]? with
    | some (.lst xs) => (xs[xs.length - 1]?).map fun y => (y, h.set p (.lst xs.dropLast))
    | none => none
  | _ => none
def methM (m : Me) (h : MH) (o : MV) (vs : List MV) : R := match o with
  | .ref p => match m with
    | .append => appendM h p vs
    | .pop => popM h p vs
  | _ => none
def setM (h : MH) (o i v : MV) : Option MH := match o, i with
  | .ref p, .int j => match h[p]? with
    | some (.lst xs) => (L2.ixN xs.length j).map fun k => h.set p (.lst (xs.set k v))
    | none => none
  | _, _ => none
/-- what an iterable gives: its items, and what must stay so while it is walked -/
structure Its where
  items : List MV
  src : Option (Nat × List MV)
def itsM (k : IK) (h : MH) (vs : List MV) : Option Its := match k with
  | .ex => match vs with
    | [.tup xs] => some ⟨xs, none⟩
    | [.frl xs] => some ⟨xs, none⟩
    | [.ref p] => match h[p]? with
      | some (.lst xs) => some ⟨xs, some (p, xs)⟩
      | none => none
    | _ => none
  | .rng1 => match vs with
    | [.int n] => if n ≤ LIM ∧ -(2 ^ 62) ≤ n then some ⟨(List.range n.toNat).map fun i => .int ((i : Nat) : Int), none⟩ else none
    | _ => none
  | .rng2 => match vs with
    | [.int a, .int b] => if -(2 ^ 62) ≤ a ∧ a < 2 ^ 62 ∧ -(2 ^ 62) ≤ b ∧ b < 2 ^ 62 ∧ (b - a).toNat ≤ LIM then some ⟨(List.range (b - a).toNat).map fun i => .int (a + ((i : Nat) : Int)), none⟩ else none
    | _ => none
def Its.still (t : Its) (h : MH) : Prop := match t.src with
  | none => True
  | some (p, xs) => h[p]? = some (.lst xs)
mutual
def bindT (t : Tg) (v : MV) (env : Env) : Option Env := match t with
  | .nm i => some (env.set i (some v))
  | .tup ts => match v with
    | .tup xs => bindTs ts xs env
    | _ => none
def bindTs (ts : List Tg) (vs : List MV) (env : Env) : Option Env := match ts with
  | [] => match vs with
    | [] => some env
    | _ => none
  | t :: ts => match vs with
    | v :: vs => (bindT t v env).bind fun e => bindTs ts vs e
    | [] => none
end
def wipeM (env : Env) : List Nat → Env
  | [] => env
  | i :: is => (wipeM env is).set i none
open Classical in
noncomputable def gc (h : MH) (r : MV × MH) : MV × MH :=
  if h.length ≤ r.2.length ∧ ∀ i o, i < h.length → r.2[i]? = some o → h[i]? = some o ∨ o.lt h.length then
    if r.1.lt h.length then (r.1, r.2.take h.length)
    else match r.1 with
      | .ref p => match r.2[p]? with
        | some o => if o.lt h.length then (.ref h.length, r.2.take h.length ++ [o]) else r
        | none => r
      | _ => r
  else r
/-- what is walked, with what its making needed let go -/
noncomputable def itsG (k : IK) (h : MH) (r : List MV × MH) : Option (Its × MH) := match k with
  | .ex => match r.1 with
    | [v] => (itsM .ex (gc h (v, r.2)).2 [(gc h (v, r.2)).1]).map fun st => (st, (gc h (v, r.2)).2)
    | _ => none
  | .rng1 => (itsM .rng1 r.2 r.1).map fun st => (st, (gc h (.non, r.2)).2)
  | .rng2 => (itsM .rng2 r.2 r.1).map fun st => (st, (gc h (.non, r.2)).2)
section
variable (g : Mod) (cf : Str → List MV → MH → R)
open Classical in
/-- the walk of a comprehension: items left, the list so far -/
noncomputable def compL (tgt : Tg) (st : Its) (env : Env) (tst elt : Env → MH → R) : List MV → List MV → MH → Option (List MV × MH)
  | [], acc, h => if st.still h then some (acc, h) else none
  | v :: vs, acc, h => if st.still h then (bindT tgt v env).bind fun e =>
      (tst e h).bind fun b => match b.1 with
        | .bl true => (elt e b.2).bind fun r => let r' := gc h r; compL tgt st env tst elt vs (acc ++ [r'.1]) r'.2
        | .bl false => compL tgt st env tst elt vs acc b.2
        | _ => none
    else none
mutual
noncomputable def evE (e : E) (env : Env) (h : MH) : R := match e with
  | .var i => match env[i]? with
    | some (some v) => some (v, h)
    | _ => none
  | .non => some (.non, h)
  | .bl b => some (.bl b, h)
  | .int i => some (.int i, h)
  | .str x => some (.str x, h)
  | .glob x => (g.cns.lookup x).map fun v => (v, h)
  | .tup es => (evEs es env h).bind fun r => some (.tup r.1, r.2)
  | .lst es => (evEs es env h).bind fun r => some (.ref r.2.length, r.2 ++ [.lst r.1])
  | .bin o a b => (evE a env h).bind fun x => (evE b env x.2).bind fun y => binM o y.2 x.1 y.1
  | .neg a => (evE a env h).bind negM
  | .cmp o a b => (evE a env h).bind fun x => (evE b env x.2).bind fun y => (cmpM o y.2 x.1 y.1).map fun c => (.bl c, y.2)
  | .chain o1 o2 a b c => (evE a env h).bind fun x => (evE b env x.2).bind fun y => (cmpM o1 y.2 x.1 y.1).bind fun c1 =>
      if c1 then (evE c env y.2).bind fun z => (cmpM o2 z.2 y.1 z.1).map fun c2 => (.bl c2, z.2) else some (.bl false, y.2)
  | .and a b => (evE a env h).bind fun x => (truth x.2 x.1).bind fun c => if c then evE b env x.2 else some x
  | .or a b => (evE a env h).bind fun x => (truth x.2 x.1).bind fun c => if c then some x else evE b env x.2
  | .not a => (evE a env h).bind fun x => (truth x.2 x.1).map fun c => (.bl (!c), x.2)
  | .ife c a b => (evE c env h).bind fun x => (truth x.2 x.1).bind fun c => if c then evE a env x.2 else evE b env x.2
  | .idx a i => (evE a env h).bind fun x => (evE i env x.2).bind fun y => (atM y.2 x.1 y.1).map fun v => (v, y.2)
  | .slice a lo hi => (evE a env h).bind fun x => (evE lo env x.2).bind fun l => (evE hi env l.2).bind fun u => (partM lo.isNon l.1).bind fun i => (partM hi.isNon u.1).bind fun j => sliceM u.2 x.1 i j
  | .call f es => (evEs es env h).bind fun r => cf f r.1 r.2
  | .bi f es => (evEs es env h).bind fun r => biM f r.2 r.1
  | .isi a t => (evE a env h).bind fun x => (isiM x.2 x.1 t).map fun c => (.bl c, x.2)
  | .meth m o es => (evE o env h).bind fun x => (evEs es env x.2).bind fun r => methM m r.2 x.1 r.1
  | .comp elt t k es cs own => (evEs es env h).bind fun r => (itsG k h r).bind fun st =>
      (compL t st.1 (wipeM env (own.map (·.2))) (fun e h => match cs with
        | [] => some (.bl true, h)
        | c :: _ => (evE c e h).bind fun x => (truth x.2 x.1).map fun b => gc h (.bl b, x.2)) (fun e h => evE elt e h) st.1.items [] st.2).map fun q => (.ref q.2.length, q.2 ++ [.lst q.1])
  | .lrng k es => (evEs es env h).bind fun r => match k with
    | .ex => none
    | k => (itsM k r.2 r.1).map fun st => (.ref r.2.length, r.2 ++ [.lst st.items])
noncomputable def evEs (es : List E) (env : Env) (h : MH) : Option (List MV × MH) := match es with
  | [] => some ([], h)
  | e :: es => (evE e env h).bind fun x => (evEs es env x.2).map fun r => (x.1 :: r.1, r.2)
end
end
end MP
namespace MP
open PySem
inductive Fl where
  | nx | rt (v : MV) | bk | ct
structure Out where
  fl : Fl
  env : Env
  h : MH
section
variable (g : Mod) (cf : Str → List MV → MH → R)
open Classical in
noncomputable def forL (tgt : Tg) (st : Its) (body : Env → MH → Option Out) : List MV → Env → MH → Option Out
  | [], env, h => if st.still h then some ⟨.nx, env, h⟩ else none
  | v :: vs, env, h => if st.still h then (bindT tgt v env).bind fun e =>
      (body e h).bind fun o => match o.fl with
        | .nx => forL tgt st body vs o.env o.h
        | .ct => forL tgt st body vs o.env o.h
        | .bk => some ⟨.nx, o.env, o.h⟩
        | .rt v => some o
    else none
noncomputable def whileL (tst : Env → MH → R) (body : Env → MH → Option Out) : Nat → Env → MH → Option Out
  | 0, env, h => none
  | n + 1, env, h => (tst env h).bind fun b => match b.1 with
      | .bl true => (body env b.2).bind fun o => match o.fl with
        | .nx => whileL tst body n o.env o.h
        | .ct => whileL tst body n o.env o.h
        | .bk => some ⟨.nx, o.env, o.h⟩
        | .rt v => some o
      | .bl false => some ⟨.nx, env, b.2⟩
      | _ => none
/-- a op= b of things that are not changed in their place -/
def augM (o : BOp) (h : MH) (a b : MV) : R := match o, a, b with
  | .add, .int i, .int j => some (.int (i + j), h)
  | .sub, .int i, .int j => some (.int (i - j), h)
  | .add, .str x, .str y => if x.length + y.length ≤ LIM then some (.str (x ++ y), h) else none
  | _, _, _ => none
/-- a test: by truth -/
noncomputable def tstE (c : E) (env : Env) (h : MH) : R := (evE g cf c env h).bind fun x => (truth x.2 x.1).map fun b => gc h (.bl b, x.2)
/-- an iterable of a for -/
noncomputable def evI (k : IK) (es : List E) (env : Env) (h : MH) : Option (Its × MH) := (evEs g cf es env h).bind fun r => itsG k h r
abbrev WLIM : Nat := 1099511627776
mutual
noncomputable def evS (s : S) (env : Env) (h : MH) : Option Out := match s with
  | .asg t e => (evE g cf e env h).bind fun x => (bindT t (gc h x).1 env).map fun env' => ⟨.nx, env', (gc h x).2⟩
  | .setIx o i e => (evE g cf e env h).bind fun x => (evE g cf o env x.2).bind fun y => (evE g cf i env y.2).bind fun z => (setM z.2 y.1 z.1 x.1).map fun h' => ⟨.nx, env, (gc h (.non, h')).2⟩
  | .aug i o e => match env[i]? with
    | some (some v) => (evE g cf e env h).bind fun x => (augM o x.2 v x.1).map fun y => ⟨.nx, env.set i (some (gc h y).1), (gc h y).2⟩
    | _ => none
  | .ex e => (evE g cf e env h).map fun x => ⟨.nx, env, (gc h (.non, x.2)).2⟩
  | .ret e => (evE g cf e env h).map fun x => ⟨.rt (gc h x).1, env, (gc h x).2⟩
  | .retN => some ⟨.rt .non, env, h⟩
  | .ite c a b => (tstE g cf c env h).bind fun x => match x.1 with
    | .bl true => evSs a env x.2
    | .bl false => evSs b env x.2
    | _ => none
  | .for_ t k es body => (evI g cf k es env h).bind fun q => forL t q.1 (fun e h => evSs body e h) q.1.items env q.2
  | .while_ c body => whileL (fun e h => tstE g cf c e h) (fun e h => evSs body e h) WLIM env h
  | .brk => some ⟨.bk, env, h⟩
  | .cont => some ⟨.ct, env, h⟩
  | .pass => some ⟨.nx, env, h⟩
noncomputable def evSs (ss : List S) (env : Env) (h : MH) : Option Out := match ss with
  | [] => some ⟨.nx, env, h⟩
  | s :: ss => (evS s env h).bind fun o => match o.fl with
    | .nx => evSs ss o.env o.h
    | _ => some o
end
end
noncomputable def run (g : Mod) : Nat → Str → List MV → MH → R
  | 0, _, _, _ => none
  | k + 1, f, vs, h => match g.fns.lookup f with
    | none => none
    | some i => if vs.length = i.np then (evSs g (run g k) i.body (vs.map some ++ List.replicate (i.names.length - vs.length) none) h).bind fun o => match o.fl with
        | .nx => some (gc h (.non, o.h))
        | .rt v => some (gc h (v, o.h))
        | _ => none
      else none
end MP
namespace MP
open PySem PySem.Spec PyProof.Rows L2
abbrev Fra := PySem.W.Frag
def KLst (K : Fra) (a : Addr) (vs : List V) : Prop :=
  ∃ (o : Obj) (its : Array Value) (n : Nat), K.lookup a = some o ∧ o.cls = .type "list" ∧ o.dict = none ∧ o.data = .seq its n ∧ its.size ≤ sizeLine ∧ Vals vs its.toList
def FrL (K : Fra) (H : Hp) (a : Addr) (vs : List V) : Prop := (∃ o, H a = some (.frz o (.lst vs))) ∨ KLst K a vs
theorem FrL.sq {K : Fra} {H : Hp} {a : Addr} {vs : List V} (h : FrL K H a vs) : SqL K H a vs := by
  rcases h with ⟨o, h⟩ | h
  · exact .inl (.inr ⟨o, h⟩)
  · exact .inr h
mutual
def RV (K : Fra) (φ : List Addr) (H : Hp) (v : V) : MV → Prop
  | .non => v = .non
  | .bl b => v = .bl b
  | .int i => v = .int i
  | .str x => v = .str x ∧ x.length ≤ sizeLine
  | .tup xs => ∃ a vs, v = .ref a ∧ SqT K H a vs ∧ RVs K φ H vs xs ∧ xs.length ≤ sizeLine
  | .frl xs => ∃ a vs, v = .ref a ∧ FrL K H a vs ∧ RVs K φ H vs xs ∧ xs.length ≤ sizeLine
  | .ref n => ∃ a, φ[n]? = some a ∧ v = .ref a
def RVs (K : Fra) (φ : List Addr) (H : Hp) (vs : List V) : List MV → Prop
  | [] => vs = []
  | x :: xs => ∃ v r, vs = v :: r ∧ RV K φ H v x ∧ RVs K φ H r xs
end
def RO (K : Fra) (φ : List Addr) (H : Hp) (a : Addr) : MO → Prop
  | .lst xs => ∃ vs, H a = some (.lst vs) ∧ RVs K φ H vs xs ∧ xs.length ≤ sizeLine
structure HR (K : Fra) (φ : List Addr) (h : MH) (H : Hp) : Prop where
  len : φ.length = h.length
  nd : φ.Nodup
  at_ : ∀ (i : Nat) (a : Addr) (o : MO), φ[i]? = some a → h[i]? = some o → RO K φ H a o
/-- from φ, H on to φ', H' -/
structure Stp (φ : List Addr) (H : Hp) (φ' : List Addr) (H' : Hp) : Prop where
  ext : ∃ l, φ' = φ ++ l
  keep : ∀ a o, H a = some o → a ∉ φ → H' a = some o
  new : ∀ a, a ∈ φ' → a ∈ φ ∨ H a = none
section
variable {K : Fra} {φ φ' φ1 φ2 : List Addr} {H H' H1 H2 : Hp} {h h' h1 h2 : MH} {v : V} {m : MV}
theorem Stp.refl : Stp φ H φ H := ⟨⟨[], (List.append_nil _).symm⟩, fun _ _ e _ => e, fun _ e => .inl e⟩
theorem Stp.trans (s : Stp φ H φ1 H1) (t : Stp φ1 H1 φ2 H2) : Stp φ H φ2 H2 := by
  refine ⟨?_, fun a o e n => ?_, fun a e => ?_⟩
  · obtain ⟨l, e⟩ := s.ext
    obtain ⟨l', e'⟩ := t.ext
    exact ⟨l ++ l', by rw [e', e, List.append_assoc]⟩
  · have e1 := s.keep a o e n
    refine t.keep a o e1 fun q => ?_
    rcases s.new a q with q | q
    · exact n q
    · rw [q] at e; cases e
  · rcases t.new a e with q | q
    · exact s.new a q
    · by_cases ha : a ∈ φ
      · exact .inl ha
      · right
        cases hh : H a with
        | none => rfl
        | some o =>
          rw [s.keep a o hh ha] at q; cases q
theorem Stp.get (s : Stp φ H φ1 H1) {n : Nat} {a : Addr} (e : φ[n]? = some a) : φ1[n]? = some a := by
  obtain ⟨l, q⟩ := s.ext
  rw [q, List.getElem?_append_left (List.getElem?_eq_some_iff.mp e).1]
  exact e
def Dom (φ : List Addr) (H : Hp) : Prop := ∀ a ∈ φ, ∃ vs, H a = some (.lst vs)
theorem HR.dom (r : HR K φ h H) : Dom φ H := fun a ha => by
  obtain ⟨i, hi, e⟩ := List.mem_iff_getElem.mp ha
  have e1 : φ[i]? = some a := by rw [List.getElem?_eq_getElem hi, e]
  have hi' : i < h.length := by rw [← r.len]; exact hi
  have q := r.at_ i a h[i] e1 (List.getElem?_eq_getElem hi')
  cases ho : h[i] with
  | lst xs =>
    rw [ho] at q
    obtain ⟨vs, q, _⟩ := q
    exact ⟨vs, q⟩
theorem Stp.tup (s : Stp φ H φ1 H1) (d : Dom φ H) {a : Addr} {vs : List V} (e : SqT K H a vs) : SqT K H1 a vs := by
  rcases e with (e | ⟨o, e⟩) | e
  · refine .inl (.inl (s.keep _ _ e fun q => ?_))
    obtain ⟨ws, q⟩ := d a q
    rw [e] at q; cases q
  · refine .inl (.inr ⟨o, s.keep _ _ e fun q => ?_⟩)
    obtain ⟨ws, q⟩ := d a q
    rw [e] at q; cases q
  · exact .inr e
theorem Stp.frl (s : Stp φ H φ1 H1) (d : Dom φ H) {a : Addr} {vs : List V} (e : FrL K H a vs) : FrL K H1 a vs := by
  rcases e with ⟨o, e⟩ | e
  · refine .inl ⟨o, s.keep _ _ e fun q => ?_⟩
    obtain ⟨ws, q⟩ := d a q
    rw [e] at q; cases q
  · exact .inr e
/-- what a value leans on stays -/
structure Wk (φ : List Addr) (H : Hp) (φ' : List Addr) (H' : Hp) : Prop where
  get : ∀ (n : Nat) (a : Addr), φ[n]? = some a → φ'[n]? = some a
  tup : ∀ a xs, H a = some (.tup xs) → H' a = some (.tup xs)
  frz : ∀ a o u, H a = some (.frz o u) → H' a = some (.frz o u)
theorem Stp.wk (s : Stp φ H φ1 H1) (d : Dom φ H) : Wk φ H φ1 H1 := by
  refine ⟨fun n a e => s.get e, fun a xs e => s.keep _ _ e fun q => ?_, fun a o u e => s.keep _ _ e fun q => ?_⟩
  · obtain ⟨ws, q⟩ := d a q
    rw [e] at q; cases q
  · obtain ⟨ws, q⟩ := d a q
    rw [e] at q; cases q
theorem wk_poke {D : Addr} {vs ws : List V} (e : H D = some (.lst vs)) : Wk φ H φ (upd H D (.lst ws)) := by
  refine ⟨fun _ _ e => e, fun a xs q => ?_, fun a o u q => ?_⟩
  · rw [upd_ne (fun z => by rw [z, e] at q; cases q)]; exact q
  · rw [upd_ne (fun z => by rw [z, e] at q; cases q)]; exact q
theorem Wk.sqt (w : Wk φ H φ1 H1) {a : Addr} {vs : List V} (e : SqT K H a vs) : SqT K H1 a vs := by
  rcases e with (e | ⟨o, e⟩) | e
  · exact .inl (.inl (w.tup _ _ e))
  · exact .inl (.inr ⟨o, w.frz _ _ _ e⟩)
  · exact .inr e
theorem Wk.frl (w : Wk φ H φ1 H1) {a : Addr} {vs : List V} (e : FrL K H a vs) : FrL K H1 a vs := by
  rcases e with ⟨o, e⟩ | e
  · exact .inl ⟨o, w.frz _ _ _ e⟩
  · exact .inr e
mutual
theorem RV.wk (w : Wk φ H φ1 H1) : ∀ (m : MV) (v : V), RV K φ H v m → RV K φ1 H1 v m
  | .non, _, e => e
  | .bl _, _, e => e
  | .int _, _, e => e
  | .str _, _, e => e
  | .tup xs, v, ⟨a, vs, e, t, r, z⟩ => ⟨a, vs, e, w.sqt t, RVs.wk w xs vs r, z⟩
  | .frl xs, v, ⟨a, vs, e, t, r, z⟩ => ⟨a, vs, e, w.frl t, RVs.wk w xs vs r, z⟩
  | .ref n, v, ⟨a, e, q⟩ => ⟨a, w.get _ _ e, q⟩
theorem RVs.wk (w : Wk φ H φ1 H1) : ∀ (m : List MV) (v : List V), RVs K φ H v m → RVs K φ1 H1 v m
  | [], _, e => e
  | x :: xs, vs, ⟨v, r, e, h1, h2⟩ => ⟨v, r, e, RV.wk w x v h1, RVs.wk w xs r h2⟩
end
theorem RV.mono (s : Stp φ H φ1 H1) (d : Dom φ H) (m : MV) (v : V) (r : RV K φ H v m) : RV K φ1 H1 v m := RV.wk (s.wk d) m v r
theorem RVs.mono (s : Stp φ H φ1 H1) (d : Dom φ H) (m : List MV) (v : List V) (r : RVs K φ H v m) : RVs K φ1 H1 v m := RVs.wk (s.wk d) m v r
mutual
/-- what names no place beyond the first n hangs on these alone -/
theorem RV.cut {l : List Addr} : ∀ (m : MV) (v : V), m.lt φ.length → RV K (φ ++ l) H v m → RV K φ H v m
  | .non, _, _, e => e
  | .bl _, _, _, e => e
  | .int _, _, _, e => e
  | .str _, _, _, e => e
  | .tup xs, v, b, ⟨a, vs, e, t, r, z⟩ => ⟨a, vs, e, t, RVs.cut xs vs b r, z⟩
  | .frl xs, v, b, ⟨a, vs, e, t, r, z⟩ => ⟨a, vs, e, t, RVs.cut xs vs b r, z⟩
  | .ref n, v, b, ⟨a, e, q⟩ => ⟨a, by rw [List.getElem?_append_left (show n < φ.length from b)] at e; exact e, q⟩
theorem RVs.cut {l : List Addr} : ∀ (m : List MV) (v : List V), ltAll φ.length m → RVs K (φ ++ l) H v m → RVs K φ H v m
  | [], _, _, e => e
  | x :: xs, vs, b, ⟨v, r, e, h1, h2⟩ => ⟨v, r, e, RV.cut x v b.1 h1, RVs.cut xs r b.2 h2⟩
end
mutual
theorem RV.ext {l : List Addr} : ∀ (m : MV) (v : V), RV K φ H v m → RV K (φ ++ l) H v m
  | .non, _, e => e
  | .bl _, _, e => e
  | .int _, _, e => e
  | .str _, _, e => e
  | .tup xs, v, ⟨a, vs, e, t, r, z⟩ => ⟨a, vs, e, t, RVs.ext xs vs r, z⟩
  | .frl xs, v, ⟨a, vs, e, t, r, z⟩ => ⟨a, vs, e, t, RVs.ext xs vs r, z⟩
  | .ref n, v, ⟨a, e, q⟩ => ⟨a, by rw [List.getElem?_append_left (List.getElem?_eq_some_iff.mp e).1]; exact e, q⟩
theorem RVs.ext {l : List Addr} : ∀ (m : List MV) (v : List V), RVs K φ H v m → RVs K (φ ++ l) H v m
  | [], _, e => e
  | x :: xs, vs, ⟨v, r, e, h1, h2⟩ => ⟨v, r, e, RV.ext x v h1, RVs.ext xs r h2⟩
end
mutual
theorem RV.low : ∀ (m : MV) (v : V), RV K φ H v m → m.lt φ.length
  | .non, _, _ => True.intro
  | .bl _, _, _ => True.intro
  | .int _, _, _ => True.intro
  | .str _, _, _ => True.intro
  | .tup xs, v, ⟨a, vs, e, t, r, z⟩ => RVs.low xs vs r
  | .frl xs, v, ⟨a, vs, e, t, r, z⟩ => RVs.low xs vs r
  | .ref n, v, ⟨a, e, q⟩ => (List.getElem?_eq_some_iff.mp e).1
theorem RVs.low : ∀ (m : List MV) (v : List V), RVs K φ H v m → ltAll φ.length m
  | [], _, _ => True.intro
  | x :: xs, vs, ⟨v, r, e, h1, h2⟩ => ⟨RV.low x v h1, RVs.low xs r h2⟩
end
theorem RVs.len : ∀ {m : List MV} {vs : List V}, RVs K φ H vs m → vs.length = m.length
  | [], _, e => by cases e; rfl
  | x :: xs, vs, ⟨v, r, e, h1, h2⟩ => by subst e; exact congrArg (· + 1) (RVs.len h2)
theorem RVs.get : ∀ {m : List MV} {vs : List V} {i : Nat} {x : MV}, RVs K φ H vs m → m[i]? = some x → ∃ v, vs[i]? = some v ∧ RV K φ H v x
  | [], _, _, _, _, q => by simp at q
  | x :: xs, _, 0, y, ⟨v, r, e, h1, h2⟩, q => by
    simp at q; subst q; subst e
    exact ⟨v, rfl, h1⟩
  | x :: xs, _, i + 1, y, ⟨v, r, e, h1, h2⟩, q => by
    subst e
    obtain ⟨u, p, t⟩ := RVs.get h2 (by simpa using q)
    exact ⟨u, by simpa using p, t⟩
theorem RVs.get' {m : List MV} {vs : List V} {i : Nat} {v : V} (r : RVs K φ H vs m) (e : vs[i]? = some v) : ∃ x, m[i]? = some x ∧ RV K φ H v x := by
  have hi : i < m.length := by rw [← r.len]; exact (List.getElem?_eq_some_iff.mp e).1
  obtain ⟨u, p, t⟩ := r.get (List.getElem?_eq_getElem hi)
  rw [e] at p; cases p
  exact ⟨_, List.getElem?_eq_getElem hi, t⟩
theorem RVs.of : ∀ {m : List MV} {vs : List V}, vs.length = m.length → (∀ (i : Nat) (x : MV) (v : V), m[i]? = some x → vs[i]? = some v → RV K φ H v x) → RVs K φ H vs m
  | [], [], _, _ => rfl
  | [], _ :: _, e, _ => by simp at e
  | _ :: _, [], e, _ => by simp at e
  | x :: xs, v :: vs, e, f => ⟨v, vs, rfl, f 0 x v rfl rfl, RVs.of (by simpa using e) fun i y u h1 h2 => f (i + 1) y u (by simpa using h1) (by simpa using h2)⟩
theorem RVs.app {m m' : List MV} : ∀ {vs : List V} {ws : List V}, RVs K φ H vs m → RVs K φ H ws m' → RVs K φ H (vs ++ ws) (m ++ m') := by
  induction m with
  | nil => intro vs ws e q; cases e; exact q
  | cons x xs ih =>
    intro vs ws e q
    obtain ⟨v, r, rfl, h1, h2⟩ := e
    exact ⟨v, r ++ ws, rfl, h1, ih h2 q⟩
theorem RVs.one {x : MV} (e : RV K φ H v x) : RVs K φ H [v] [x] := ⟨v, [], rfl, e, rfl⟩
theorem RVs.take {m : List MV} {vs : List V} (n : Nat) (r : RVs K φ H vs m) : RVs K φ H (vs.take n) (m.take n) := by
  refine .of (by rw [List.length_take, List.length_take, r.len]) fun i x v h1 h2 => ?_
  have hi : i < n := by have := (List.getElem?_eq_some_iff.mp h1).1; rw [List.length_take] at this; omega
  rw [List.getElem?_take_of_lt hi] at h1 h2
  obtain ⟨u, p, t⟩ := r.get h1
  rw [p] at h2; cases h2
  exact t
theorem RVs.drop {m : List MV} {vs : List V} (n : Nat) (r : RVs K φ H vs m) : RVs K φ H (vs.drop n) (m.drop n) := by
  refine .of (by rw [List.length_drop, List.length_drop, r.len]) fun i x v h1 h2 => ?_
  rw [List.getElem?_drop] at h1 h2
  obtain ⟨u, p, t⟩ := r.get h1
  rw [p] at h2; cases h2
  exact t
theorem RVs.set {m : List MV} {vs : List V} {k : Nat} {x : MV} (r : RVs K φ H vs m) (e : RV K φ H v x) : RVs K φ H (vs.set k v) (m.set k x) := by
  refine .of (by rw [List.length_set, List.length_set, r.len]) fun i y u h1 h2 => ?_
  rw [List.getElem?_set] at h1 h2
  by_cases hk : k = i
  · subst hk
    rw [if_pos rfl] at h1 h2
    split at h1 <;> split at h2 <;> first | (cases h1; done) | (cases h2; done) | (cases h1; cases h2; exact e)
  · rw [if_neg hk] at h1 h2
    obtain ⟨w, p, t⟩ := r.get h1
    rw [p] at h2; cases h2
    exact t
theorem RVs.erase {m : List MV} {vs : List V} {k : Nat} (r : RVs K φ H vs m) : RVs K φ H (vs.eraseIdx k) (m.eraseIdx k) := by
  rw [List.eraseIdx_eq_take_drop_succ, List.eraseIdx_eq_take_drop_succ]
  exact (r.take k).app (r.drop (k + 1))
theorem HR.mono_obj (s : Stp φ H φ1 H1) (d : Dom φ H) {xs : List MV} {vs : List V} (r : RVs K φ H vs xs) : RVs K φ1 H1 vs xs := RVs.mono s d xs vs r
theorem RVs.dropLast {m : List MV} {vs : List V} (r : RVs K φ H vs m) : RVs K φ H vs.dropLast m.dropLast := by
  rw [List.dropLast_eq_take, List.dropLast_eq_take, r.len]
  exact r.take _
/-- a place is read -/
theorem HR.lst (r : HR K φ h H) {n : Nat} {a : Addr} {xs : List MV} (e : φ[n]? = some a) (q : h[n]? = some (.lst xs)) : ∃ vs, H a = some (.lst vs) ∧ RVs K φ H vs xs ∧ xs.length ≤ sizeLine := r.at_ n a _ e q
/-- a new tuple, or another thing that is no list of ours -/
theorem stp_new {p : Addr} {o : HO} (hp : H p = none) : Stp φ H φ (upd H p o) :=
  ⟨⟨[], (List.append_nil _).symm⟩, fun a u e _ => by rw [upd_ne (ne_of_none e hp)]; exact e, fun _ e => .inl e⟩
theorem HR.keep (r : HR K φ h H) (s : Stp φ H φ H1) (k : ∀ a ∈ φ, H1 a = H a) : HR K φ h H1 := by
  refine ⟨r.len, r.nd, fun i a o e q => ?_⟩
  have h0 := r.at_ i a o e q
  cases o with
  | lst xs =>
    obtain ⟨vs, e1, e2, e3⟩ := h0
    exact ⟨vs, by rw [k a (List.mem_of_getElem? e)]; exact e1, RVs.mono s r.dom _ _ e2, e3⟩
theorem HR.new (r : HR K φ h H) {p : Addr} {o : HO} (hp : H p = none) : HR K φ h (upd H p o) :=
  r.keep (stp_new hp) fun a ha => by
    obtain ⟨vs, e⟩ := r.dom a ha
    exact upd_ne (ne_of_none e hp)
/-- a new list of ours -/
theorem stp_lst {p : Addr} {o : HO} (hp : H p = none) : Stp φ H (φ ++ [p]) (upd H p o) :=
  ⟨⟨[p], rfl⟩, fun a u e _ => by rw [upd_ne (ne_of_none e hp)]; exact e, fun a e => by
    rcases List.mem_append.mp e with e | e
    · exact .inl e
    · right; rw [List.mem_singleton.mp e]; exact hp⟩
theorem HR.push (r : HR K φ h H) {p : Addr} {vs : List V} {xs : List MV} (hp : H p = none) (q : RVs K φ H vs xs) (z : xs.length ≤ sizeLine) : HR K (φ ++ [p]) (h ++ [.lst xs]) (upd H p (.lst vs)) := by
  have s : Stp φ H (φ ++ [p]) (upd H p (.lst vs)) := stp_lst hp
  have np : p ∉ φ := fun hm => by
    obtain ⟨ws, e⟩ := r.dom p hm
    rw [hp] at e; cases e
  refine ⟨by rw [List.length_append, List.length_append, r.len]; rfl, ?_, fun i a o e1 e2 => ?_⟩
  · rw [List.nodup_append]
    refine ⟨r.nd, by simp, fun a ha b hb => ?_⟩
    rw [List.mem_singleton.mp hb]
    intro z; rw [z] at ha; exact np ha
  · by_cases hi : i < φ.length
    · rw [List.getElem?_append_left hi] at e1
      rw [List.getElem?_append_left (by rw [← r.len]; exact hi)] at e2
      have h0 := r.at_ i a o e1 e2
      cases o with
      | lst ys =>
        obtain ⟨ws, p1, p2, p3⟩ := h0
        exact ⟨ws, by rw [upd_ne (ne_of_none p1 hp)]; exact p1, RVs.mono s r.dom _ _ p2, p3⟩
    · have hi2 : i = φ.length := by
        have := (List.getElem?_eq_some_iff.mp e1).1
        rw [List.length_append, List.length_singleton] at this
        omega
      subst hi2
      rw [List.getElem?_append_right (Nat.le_refl _), Nat.sub_self] at e1
      rw [List.getElem?_append_right (by rw [r.len]; exact Nat.le_refl _), r.len, Nat.sub_self] at e2
      cases e1; cases e2
      exact ⟨vs, upd_same, RVs.mono s r.dom _ _ q, z⟩
/-- a list of ours is changed -/
theorem stp_set {n : Nat} {p : Addr} {o : HO} (e : φ[n]? = some p) : Stp φ H φ (upd H p o) :=
  ⟨⟨[], (List.append_nil _).symm⟩, fun a u q na => by
    rw [upd_ne (fun z => na (by rw [z]; exact List.mem_of_getElem? e))]; exact q, fun _ q => .inl q⟩
theorem HR.put (r : HR K φ h H) {n : Nat} {p : Addr} {vs : List V} {xs : List MV} (e : φ[n]? = some p) (q : RVs K φ H vs xs) (z : xs.length ≤ sizeLine) : HR K φ (h.set n (.lst xs)) (upd H p (.lst vs)) := by
  have s : Stp φ H φ (upd H p (.lst vs)) := stp_set e
  refine ⟨by rw [List.length_set]; exact r.len, r.nd, fun i a o e1 e2 => ?_⟩
  by_cases hi : i = n
  · subst hi
    rw [e] at e1; cases e1
    have hl : i < h.length := by rw [← r.len]; exact (List.getElem?_eq_some_iff.mp e).1
    rw [List.getElem?_set_self hl] at e2
    cases e2
    exact ⟨vs, upd_same, RVs.mono s r.dom _ _ q, z⟩
  · rw [List.getElem?_set_ne (Ne.symm hi)] at e2
    have h0 := r.at_ i a o e1 e2
    have na : a ≠ p := fun w => hi (by
      subst w
      obtain ⟨h1, f1⟩ := List.getElem?_eq_some_iff.mp e1
      obtain ⟨h2, f2⟩ := List.getElem?_eq_some_iff.mp e
      exact (List.getElem_inj r.nd).mp (f1.trans f2.symm))
    cases o with
    | lst ys =>
      obtain ⟨ws, p1, p2, p3⟩ := h0
      exact ⟨ws, by rw [upd_ne na]; exact p1, RVs.mono s r.dom _ _ p2, p3⟩
theorem gc_ok {v : V} {r : MV × MH} (r0 : HR K φ h H) (s : Stp φ H φ' H') (r1 : HR K φ' r.2 H') (e : RV K φ' H' v r.1) :
    ∃ φ2, Stp φ H φ2 H' ∧ HR K φ2 (gc h r).2 H' ∧ RV K φ2 H' v (gc h r).1 := by
  unfold gc
  obtain ⟨l, el⟩ := s.ext
  subst el
  split
  · rename_i hc
    obtain ⟨hle, hold⟩ := hc
    have s0 : Stp φ H φ H' := ⟨⟨[], (List.append_nil _).symm⟩, s.keep, fun _ q => .inl q⟩
    have old : ∀ i o, i < h.length → r.2[i]? = some o → o.lt φ.length := fun i o hi q => by
      rw [r0.len]
      rcases hold i o hi q with w | w
      · have hi' : i < φ.length := by rw [r0.len]; exact hi
        have h1 := r0.at_ i φ[i] o (List.getElem?_eq_getElem hi') w
        cases o with
        | lst xs =>
          obtain ⟨vs, _, q2, _⟩ := h1
          have := RVs.low _ _ q2
          rw [r0.len] at this
          exact this
      · exact w
    have h0 : HR K φ (r.2.take h.length) H' := by
      refine ⟨by rw [List.length_take, r0.len]; omega, r0.nd, fun i a o e1 e2 => ?_⟩
      have hi : i < h.length := by rw [← r0.len]; exact (List.getElem?_eq_some_iff.mp e1).1
      rw [List.getElem?_take_of_lt hi] at e2
      have q := r1.at_ i a o (by rw [List.getElem?_append_left (by rw [r0.len]; exact hi)]; exact e1) e2
      have b := old i o hi e2
      cases o with
      | lst xs =>
        obtain ⟨vs, q1, q2, q3⟩ := q
        exact ⟨vs, q1, RVs.cut xs vs b q2, q3⟩
    split
    · rename_i hl
      exact ⟨φ, s0, h0, RV.cut _ _ (by rw [r0.len]; exact hl) e⟩
    · rename_i hl
      split
      · rename_i p hp
        split
        · rename_i o ho
          split
          · rename_i hlt
            rw [hp] at e
            obtain ⟨a, ea, rfl⟩ := e
            have hpn : h.length ≤ p := by
              rw [hp] at hl
              exact Nat.le_of_not_lt hl
            have q := r1.at_ p a o ea ho
            have na : a ∉ φ := fun hm => by
              obtain ⟨j, hj, ej⟩ := List.mem_iff_getElem.mp hm
              have f1 : (φ ++ l)[j]? = some a := by rw [List.getElem?_append_left hj, List.getElem?_eq_getElem hj, ej]
              obtain ⟨g1, f1⟩ := List.getElem?_eq_some_iff.mp f1
              obtain ⟨g2, f2⟩ := List.getElem?_eq_some_iff.mp ea
              have := (List.getElem_inj r1.nd).mp (f1.trans f2.symm)
              rw [r0.len] at hj
              omega
            have hHa : H a = none := by
              rcases s.new a (List.mem_of_getElem? ea) with w | w
              · exact absurd w na
              · exact w
            cases o with
            | lst xs =>
              obtain ⟨vs, q1, q2, q3⟩ := q
              have q2' : RVs K φ H' vs xs := RVs.cut xs vs (by rw [r0.len]; exact hlt) q2
              have s2 : Stp φ H (φ ++ [a]) H' := ⟨⟨[a], rfl⟩, s.keep, fun b hb => by
                rcases List.mem_append.mp hb with w | w
                · exact .inl w
                · right; rw [List.mem_singleton.mp w]; exact hHa⟩
              refine ⟨φ ++ [a], s2, ⟨?_, ?_, fun i b o2 e1 e2 => ?_⟩, ?_⟩
              · rw [List.length_append, List.length_append, h0.len]; rfl
              · rw [List.nodup_append]
                refine ⟨r0.nd, by simp, fun b hb c hc => ?_⟩
                rw [List.mem_singleton.mp hc]
                intro z; rw [z] at hb; exact na hb
              · have hln : (List.take h.length r.2).length = φ.length := by rw [List.length_take, r0.len]; omega
                by_cases hi : i < φ.length
                · rw [List.getElem?_append_left hi] at e1
                  rw [List.getElem?_append_left (by rw [hln]; exact hi)] at e2
                  have w := h0.at_ i b o2 e1 e2
                  cases o2 with
                  | lst ys =>
                    obtain ⟨ws, p1, p2, p3⟩ := w
                    exact ⟨ws, p1, RVs.ext _ _ p2, p3⟩
                · have hi2 : i = φ.length := by
                    have := (List.getElem?_eq_some_iff.mp e1).1
                    rw [List.length_append, List.length_singleton] at this
                    omega
                  subst hi2
                  rw [List.getElem?_append_right (Nat.le_refl _), Nat.sub_self] at e1
                  rw [List.getElem?_append_right (by rw [hln]; exact Nat.le_refl _), hln, Nat.sub_self] at e2
                  cases e1; cases e2
                  exact ⟨vs, q1, RVs.ext _ _ q2', q3⟩
              · exact ⟨a, by rw [← r0.len, List.getElem?_append_right (Nat.le_refl _), Nat.sub_self]; rfl, rfl⟩
          · exact ⟨φ ++ l, s, r1, e⟩
        · exact ⟨φ ++ l, s, r1, e⟩
      · exact ⟨φ ++ l, s, r1, e⟩
  · exact ⟨φ ++ l, s, r1, e⟩
end
end MP
namespace MP
open PySem PySem.Spec PyProof.Rows L2
structure Ew (K : Fra) (φ : List Addr) (h : MH) (env : Env) (σ : L2.St) (H : Hp) : Prop where
  hr : HR K φ h H
  len : env.length = σ.length
  at_ : ∀ (i : Nat) (m : MV), env[i]? = some (some m) → ∃ v, σ[i]? = some (some v) ∧ RV K φ H v m
/-- what is wanted behind a value -/
def Post (K : Fra) (φ : List Addr) (H : Hp) (Q : VK) (r : MV × MH) : Prop := ∀ φ' H' v, Stp φ H φ' H' → HR K φ' r.2 H' → RV K φ' H' v r.1 → Q v H'
def PostA (K : Fra) (φ : List Addr) (H : Hp) (Q : List V → Hp → Prop) (r : List MV × MH) : Prop := ∀ φ' H' v, Stp φ H φ' H' → HR K φ' r.2 H' → RVs K φ' H' v r.1 → Q v H'
def tEv (K : Fra) (ev : Env → MH → R) : TE := fun σ H Q => ∃ φ h env r, Ew K φ h env σ H ∧ ev env h = some r ∧ Post K φ H Q r
def tTv (K : Fra) (ev : Env → MH → R) : TT := fun σ H Q => ∃ φ h env r, Ew K φ h env σ H ∧ ev env h = some r ∧ ∃ c, truth r.2 r.1 = some c ∧ ∀ φ' H', Stp φ H φ' H' → HR K φ' r.2 H' → Q c H'
def tEs (K : Fra) (ev : Env → MH → Option (List MV × MH)) : TA := fun σ H Q => ∃ φ h env r, Ew K φ h env σ H ∧ ev env h = some r ∧ PostA K φ H Q r
theorem _root_.L2.PE.imp {X : Cx} {e : Expr} {t t' : TE} (h : PE X e t) (k : ∀ σ H Q, t' σ H Q → t σ H Q) : PE X e t' := ⟨fun pins s σ H Q I q => h.run pins s σ H Q I (k _ _ _ q)⟩
theorem _root_.L2.PT.imp {X : Cx} {e : Expr} {t t' : TT} (h : PT X e t) (k : ∀ σ H Q, t' σ H Q → t σ H Q) : PT X e t' := ⟨fun pins s σ H Q I q => h.run pins s σ H Q I (k _ _ _ q)⟩
theorem _root_.L2.PW.imp {X : Cx} {e : Expr} {t t' : TT} (h : PW X e t) (k : ∀ σ H Q, t' σ H Q → t σ H Q) : PW X e t' := ⟨fun wh pins s σ H Q I q => h.run wh pins s σ H Q I (k _ _ _ q)⟩
theorem _root_.L2.PA.imp {X : Cx} {e : List Expr} {t t' : TA} (h : PA X e t) (k : ∀ σ H Q, t' σ H Q → t σ H Q) : PA X e t' := ⟨fun p pins s σ H Q I q => h.run p pins s σ H Q I (k _ _ _ q)⟩
theorem _root_.L2.PS.imp {X : Cx} {e : Stmt} {t t' : TS} (h : PS X e t) (k : ∀ D σ H, t' D σ H → t D σ H) : PS X e t' := ⟨fun pins s σ H D I q => h.run pins s σ H D I (k _ _ _ q)⟩
theorem _root_.L2.PSs.imp {X : Cx} {e : List Stmt} {t t' : TS} (h : PSs X e t) (k : ∀ D σ H, t' D σ H → t D σ H) : PSs X e t' := ⟨fun pins s σ H D I q => h.run pins s σ H D I (k _ _ _ q)⟩
section
variable {K : Fra} {φ φ' φ1 φ2 : List Addr} {H H' H1 H2 : Hp} {h h' h1 h2 : MH} {v : V} {m : MV} {env : Env} {σ : L2.St}
theorem Ew.step (w : Ew K φ h env σ H) (s : Stp φ H φ1 H1) (r : HR K φ1 h1 H1) : Ew K φ1 h1 env σ H1 :=
  ⟨r, w.len, fun i m e => let ⟨v, e1, e2⟩ := w.at_ i m e; ⟨v, e1, RV.mono s w.hr.dom m v e2⟩⟩
theorem go {ev : Env → MH → R} {r : MV × MH} {Q : VK} (w : Ew K φ h env σ H) (e : ev env h = some r) (k : ∀ φ1 H1 v, Stp φ H φ1 H1 → Ew K φ1 r.2 env σ H1 → RV K φ1 H1 v r.1 → Q v H1) : tEv K ev σ H Q :=
  ⟨φ, h, env, r, w, e, fun φ1 H1 v s hr rv => k φ1 H1 v s (w.step s hr) rv⟩
theorem goA {ev : Env → MH → Option (List MV × MH)} {r : List MV × MH} {Q : List V → Hp → Prop} (w : Ew K φ h env σ H) (e : ev env h = some r) (k : ∀ φ1 H1 v, Stp φ H φ1 H1 → Ew K φ1 r.2 env σ H1 → RVs K φ1 H1 v r.1 → Q v H1) : tEs K ev σ H Q :=
  ⟨φ, h, env, r, w, e, fun φ1 H1 v s hr rv => k φ1 H1 v s (w.step s hr) rv⟩
theorem Post.on {Q : VK} {r : MV × MH} (p : Post K φ H Q r) (s : Stp φ H φ1 H1) : Post K φ1 H1 Q r := fun φ' H' v s' hr rv => p φ' H' v (s.trans s') hr rv
theorem PostA.on {Q : List V → Hp → Prop} {r : List MV × MH} (p : PostA K φ H Q r) (s : Stp φ H φ1 H1) : PostA K φ1 H1 Q r := fun φ' H' v s' hr rv => p φ' H' v (s.trans s') hr rv
theorem Post.now {Q : VK} (p : Post K φ H Q (m, h)) (r : HR K φ h H) (e : RV K φ H v m) : Q v H := p φ H v .refl r e
/-- the answer is a new list -/
theorem Post.lst {Q : VK} {xs : List MV} {vs : List V} (p : Post K φ H Q (.ref h.length, h ++ [.lst xs])) (r : HR K φ h H) (q : RVs K φ H vs xs) (z : xs.length ≤ sizeLine) : ∀ a, H a = none → Q (.ref a) (upd H a (.lst vs)) := fun a ha =>
  p (φ ++ [a]) _ _ (stp_lst ha) (r.push ha q z) ⟨a, by rw [← r.len, List.getElem?_append_right (Nat.le_refl _), Nat.sub_self]; rfl, rfl⟩
/-- a new tuple -/
theorem Post.tup {Q : VK} {xs : List MV} {vs : List V} (p : Post K φ H Q (.tup xs, h)) (r : HR K φ h H) (q : RVs K φ H vs xs) (z : xs.length ≤ sizeLine) : ∀ a, H a = none → Q (.ref a) (upd H a (.tup vs)) := fun a ha =>
  p φ _ _ (stp_new ha) (r.new ha) ⟨a, vs, rfl, .of upd_same, RVs.mono (stp_new ha) r.dom _ _ q, z⟩
mutual
theorem dp_of : ∀ (m : MV) (v : V) (d : PyData), toD m = some d → RV K φ H v m → Dp K H v d
  | .non, v, d, e, r => by cases e; cases r; exact .non
  | .bl b, v, d, e, r => by cases e; cases r; exact .bl b
  | .int b, v, d, e, r => by cases e; cases r; exact .int b
  | .str b, v, d, e, r => by cases e; obtain ⟨rfl, _⟩ := r; exact .str b
  | .tup xs, v, d, e, r => by
    simp only [toD, Option.map_eq_some_iff] at e
    obtain ⟨ds, e1, rfl⟩ := e
    obtain ⟨a, vs, rfl, t, rs, _⟩ := r
    exact .tup t (dps_of xs vs ds e1 rs)
  | .frl xs, v, d, e, r => by
    simp only [toD, Option.map_eq_some_iff] at e
    obtain ⟨ds, e1, rfl⟩ := e
    obtain ⟨a, vs, rfl, t, rs, _⟩ := r
    exact .lst t.sq (dps_of xs vs ds e1 rs)
  | .ref _, _, _, e, _ => by cases e
theorem dps_of : ∀ (m : List MV) (v : List V) (d : List PyData), toDs m = some d → RVs K φ H v m → DpAll K H v d
  | [], v, d, e, r => by cases e; cases r; exact .nil
  | x :: xs, v, d, e, r => by
    simp only [toDs, Option.bind_eq_some_iff, Option.map_eq_some_iff] at e
    obtain ⟨d1, e1, ds, e2, rfl⟩ := e
    obtain ⟨w, ws, rfl, r1, r2⟩ := r
    exact .cons (dp_of x w d1 e1 r1) (dps_of xs ws ds e2 r2)
end
theorem flat_of {m : MV} {v : V} (f : flatM m = true) (r : RV K φ H v m) : flatV v = true := by
  cases m <;> first | (cases r; rfl) | (obtain ⟨rfl, _⟩ := r; rfl) | cases f
def fV : MV → V
  | .bl b => .bl b | .int b => .int b | .str b => .str b | _ => .non
theorem fV_of {m : MV} {v : V} (f : flatM m = true) (r : RV K φ H v m) : v = fV m := by
  cases m with
  | str b => exact r.1
  | non => exact r
  | bl b => exact r
  | int b => exact r
  | tup b => cases f
  | frl b => cases f
  | ref b => cases f
theorem eqF_of {m n : MV} {v u : V} (f : flatM m = true) (f' : flatM n = true) (r : RV K φ H v m) (q : RV K φ H u n) : eqV v u = eqF m n := by
  rw [fV_of f r, fV_of f' q]
  cases m <;> cases n <;> first | rfl | (cases f'; done) | (cases f; done)
theorem flats_of {xs : List MV} {vs : List V} (f : xs.all flatM = true) (r : RVs K φ H vs xs) : vs.all flatV = true := by
  induction xs generalizing vs with
  | nil => cases r; rfl
  | cons x xs ih =>
    obtain ⟨v, ws, rfl, h1, h2⟩ := r
    simp only [List.all_cons, Bool.and_eq_true] at f ⊢
    exact ⟨flat_of f.1 h1, ih f.2 h2⟩
theorem inV_of {x : MV} {u : V} {xs : List MV} {vs : List V} (f : xs.all flatM = true) (fx : flatM x = true) (r : RVs K φ H vs xs) (q : RV K φ H u x) : inV u vs = xs.any fun y => eqF y x := by
  unfold inV
  induction xs generalizing vs with
  | nil => cases r; rfl
  | cons y xs ih =>
    obtain ⟨v, ws, rfl, h1, h2⟩ := r
    simp only [List.all_cons, Bool.and_eq_true] at f
    rw [List.any_cons, List.any_cons, eqF_of f.1 fx h1 q, ih f.2 h2]
/-- a sequence as it stands -/
theorem seq_of {m : MV} {v : V} {xs : List MV} (hr : HR K φ h H) (r : RV K φ H v m) (e : seqM h m = some xs) : ∃ a vs, v = .ref a ∧ (SqL K H a vs ∨ SqT K H a vs) ∧ RVs K φ H vs xs ∧ xs.length ≤ sizeLine := by
  cases m with
  | tup ys =>
    cases e
    obtain ⟨a, vs, rfl, t, q, z⟩ := r
    exact ⟨a, vs, rfl, .inr t, q, z⟩
  | frl ys =>
    cases e
    obtain ⟨a, vs, rfl, t, q, z⟩ := r
    exact ⟨a, vs, rfl, .inl t.sq, q, z⟩
  | ref p =>
    obtain ⟨a, ea, rfl⟩ := r
    simp only [seqM] at e
    split at e
    · rename_i ys hy
      cases e
      obtain ⟨vs, q1, q2, q3⟩ := hr.lst ea hy
      exact ⟨a, vs, rfl, .inl (.of q1), q2, q3⟩
    · cases e
  | _ => cases e
theorem tru_of {m : MV} {v : V} {c : Bool} (hr : HR K φ h H) (r : RV K φ H v m) (e : truth h m = some c) : TruV K v H c := by
  cases m with
  | non => cases r; cases e; rfl
  | bl b => cases r; cases e; rfl
  | int b => cases r; cases e; rfl
  | str b => obtain ⟨rfl, z⟩ := r; cases e; exact ⟨z, rfl⟩
  | tup ys =>
    cases e
    obtain ⟨a, vs, rfl, t, q, z⟩ := r
    refine .inr (.inl ⟨vs, t, ?_⟩)
    have := q.len
    cases ys <;> cases vs <;> simp_all
  | frl ys =>
    cases e
    obtain ⟨a, vs, rfl, t, q, z⟩ := r
    refine .inl ⟨vs, t.sq, ?_⟩
    have := q.len
    cases ys <;> cases vs <;> simp_all
  | ref p =>
    obtain ⟨a, ea, rfl⟩ := r
    simp only [truth] at e
    split at e
    · rename_i ys hy
      cases e
      obtain ⟨vs, q1, q2, q3⟩ := hr.lst ea hy
      refine .inl ⟨vs, .of q1, ?_⟩
      have := q2.len
      cases ys <;> cases vs <;> simp_all
    · cases e
end
def bop : BOp → Operator
  | .add => .Add | .sub => .Sub | .mul => .Mult | .mod => .Mod | .fdiv => .FloorDiv | .pow => .Pow
def cop : COp → CmpOp
  | .lt => .Lt | .le => .LtE | .gt => .Gt | .ge => .GtE | .eq => .Eq | .ne => .NotEq | .isN => .Is | .notN => .IsNot | .isin => .In | .notin => .NotIn
def rB (K : Fra) (o : BOp) : R2 := fun x y H Q => ∃ φ h a b r, HR K φ h H ∧ RV K φ H x a ∧ RV K φ H y b ∧ binM o h a b = some r ∧ Post K φ H Q r
def rC (K : Fra) (o : COp) : R2 := fun x y H Q => ∃ φ h a b c, HR K φ h H ∧ RV K φ H x a ∧ RV K φ H y b ∧ cmpM o h a b = some c ∧ Q (.bl c) H
section
variable {X : Cx}
theorem lim_eq : LIM = sizeLine := rfl
theorem opB (o : BOp) : OpR X (binaryOp (bop o)) (rB X.K o) := by
  intro pins s σ H x y v u Q I rx ry hh
  obtain ⟨φ, h, a, b, r, hr, ha, hb, e, q⟩ := hh
  cases o with
  | add =>
    simp only [binM] at e
    split at e
    · rename_i i j
      cases e; cases ha; cases hb
      exact op_add pins s σ H _ _ v u Q I rx ry ⟨i, j, rfl, rfl, q.now hr rfl⟩
    · rename_i i j
      obtain ⟨rfl, za⟩ := ha
      obtain ⟨rfl, zb⟩ := hb
      split at e
      · rename_i hz
        cases e
        exact op_add_str pins s σ H _ _ v u Q I rx ry ⟨i, j, rfl, rfl, hz, q.now hr ⟨rfl, by
          show (i ++ j).cps.size ≤ _
          have : (i ++ j).cps.size = i.cps.size + j.cps.size := by show (i.cps ++ j.cps).size = _; simp
          rw [this]; exact hz⟩⟩
      · cases e
    · rename_i xs ys
      obtain ⟨a, vs, rfl, t, p, z⟩ := ha
      obtain ⟨b, ws, rfl, t', p', z'⟩ := hb
      split at e
      · rename_i hz
        cases e
        have hl : (xs ++ ys).length ≤ sizeLine := by rw [List.length_append]; exact hz
        refine op_catA pins s σ H _ _ v u Q I rx ry ⟨a, b, vs, ws, rfl, rfl, t, t', by rw [p.len, p'.len]; exact hz, fun z1 => ?_, fun z1 z2 => ?_, fun _ _ => q.tup hr (p.app p') hl⟩
        · refine q.now hr ⟨b, ws, rfl, t', ?_, hl⟩
          have := p.app p'
          rw [z1] at this
          exact this
        · refine q.now hr ⟨a, vs, rfl, t, ?_, hl⟩
          have := p.app p'
          rw [z2, List.append_nil] at this
          exact this
      · cases e
    · rename_i m n
      split at e
      · rename_i xs ys h1 h2
        split at e
        · rename_i hz
          cases e
          obtain ⟨a, ea, rfl⟩ := ha
          obtain ⟨b, eb, rfl⟩ := hb
          obtain ⟨vs, q1, q2, q3⟩ := hr.lst ea h1
          obtain ⟨ws, p1, p2, p3⟩ := hr.lst eb h2
          exact op_cat pins s σ H _ _ v u Q I rx ry ⟨a, b, vs, ws, rfl, rfl, q1, p1, by rw [q2.len, p2.len]; exact hz, q.lst hr (q2.app p2) (by rw [List.length_append]; exact hz)⟩
        · cases e
      · cases e
    · cases e
  | sub =>
    simp only [binM] at e
    split at e
    · rename_i i j
      cases e; cases ha; cases hb
      exact op_sub pins s σ H _ _ v u Q I rx ry ⟨i, j, rfl, rfl, q.now hr rfl⟩
    · cases e
  | mul =>
    simp only [binM] at e
    split at e
    · rename_i i j
      split at e
      · rename_i hc
        cases e; cases ha; cases hb
        rcases hc with hc | hc
        · exact op_mul pins s σ H _ _ v u Q I rx ry ⟨i, j, rfl, rfl, hc, q.now hr rfl⟩
        · exact op_mulW pins s σ H _ _ v u Q I rx ry ⟨i, j, rfl, rfl, hc, q.now hr rfl⟩
      · cases e
    · cases e
  | mod =>
    simp only [binM] at e
    split at e
    · rename_i i j
      split at e
      · rename_i hc
        cases e; cases ha; cases hb
        exact op_mod pins s σ H _ _ v u Q I rx ry ⟨i, j, rfl, rfl, hc, q.now hr rfl⟩
      · cases e
    · cases e
  | fdiv =>
    simp only [binM] at e
    split at e
    · rename_i i j
      split at e
      · rename_i hc
        cases e; cases ha; cases hb
        exact op_fdivW pins s σ H _ _ v u Q I rx ry ⟨i, j, rfl, rfl, hc, q.now hr rfl⟩
      · cases e
    · cases e
  | pow =>
    simp only [binM] at e
    split at e
    · rename_i i j
      split at e
      · rename_i hc
        cases e; cases ha; cases hb
        exact op_pow pins s σ H _ _ v u Q I rx ry ⟨i, j, rfl, rfl, hc, q.now hr rfl⟩
      · cases e
    · cases e
theorem opC (hu : X.A.units + 64 < cLine) (o : COp) : OpR X (compareOp (cop o)) (rC X.K o) := by
  intro pins s σ H x y v u Q I rx ry hh
  obtain ⟨φ, h, a, b, c, hr, ha, hb, e, q⟩ := hh
  cases o with
  | lt =>
    simp only [cmpM] at e
    split at e
    · rename_i i j
      cases e; cases ha; cases hb
      exact op_lt pins s σ H _ _ v u Q I rx ry ⟨i, j, rfl, rfl, q⟩
    · cases e
  | le =>
    simp only [cmpM] at e
    split at e
    · rename_i i j
      cases e; cases ha; cases hb
      exact op_le pins s σ H _ _ v u Q I rx ry ⟨i, j, rfl, rfl, q⟩
    · cases e
  | gt =>
    simp only [cmpM] at e
    split at e
    · rename_i i j
      cases e; cases ha; cases hb
      exact op_gt pins s σ H _ _ v u Q I rx ry ⟨i, j, rfl, rfl, q⟩
    · cases e
  | ge =>
    simp only [cmpM] at e
    split at e
    · rename_i i j
      cases e; cases ha; cases hb
      exact op_ge pins s σ H _ _ v u Q I rx ry ⟨i, j, rfl, rfl, q⟩
    · cases e
  | eq =>
    simp only [cmpM, eqM, Option.bind_eq_some_iff] at e
    obtain ⟨d, e1, d', e2, e⟩ := e
    split at e
    · rename_i hs
      cases e
      exact op_eqD hu pins s σ H _ _ v u Q I rx ry ⟨d, d', dp_of _ _ _ e1 ha, dp_of _ _ _ e2 hb, hs.1, hs.2, q⟩
    · cases e
  | ne =>
    simp only [cmpM, eqM, Option.bind_eq_some_iff, Option.map_eq_some_iff] at e
    obtain ⟨c0, ⟨d, e1, d', e2, e⟩, rfl⟩ := e
    split at e
    · rename_i hs
      cases e
      exact op_neD hu pins s σ H _ _ v u Q I rx ry ⟨d, d', dp_of _ _ _ e1 ha, dp_of _ _ _ e2 hb, hs.1, hs.2, q⟩
    · cases e
  | isN =>
    simp only [cmpM] at e
    split at e
    · cases e; cases hb
      refine op_isN pins s σ H _ _ v u Q I rx ry ⟨rfl, ?_⟩
      split at q
      · cases ha; exact q
      · rename_i hn
        have : decide (x = V.non) = false := by
          cases a with
          | non => exact absurd rfl hn
          | bl b => cases ha; rfl
          | int b => cases ha; rfl
          | str b => obtain ⟨rfl, _⟩ := ha; rfl
          | tup b => obtain ⟨_, _, rfl, _⟩ := ha; rfl
          | frl b => obtain ⟨_, _, rfl, _⟩ := ha; rfl
          | ref b => obtain ⟨_, _, rfl⟩ := ha; rfl
        rw [this]; exact q
    · cases e
  | notN =>
    simp only [cmpM] at e
    split at e
    · cases e; cases hb
      refine op_notN pins s σ H _ _ v u Q I rx ry ⟨rfl, ?_⟩
      split at q
      · cases ha; exact q
      · rename_i hn
        have : decide (x = V.non) = false := by
          cases a with
          | non => exact absurd rfl hn
          | bl b => cases ha; rfl
          | int b => cases ha; rfl
          | str b => obtain ⟨rfl, _⟩ := ha; rfl
          | tup b => obtain ⟨_, _, rfl, _⟩ := ha; rfl
          | frl b => obtain ⟨_, _, rfl, _⟩ := ha; rfl
          | ref b => obtain ⟨_, _, rfl⟩ := ha; rfl
        rw [this]; exact q
    · cases e
  | isin =>
    simp only [cmpM, inM, Option.bind_eq_some_iff] at e
    obtain ⟨xs, e1, e⟩ := e
    split at e
    · rename_i hf
      cases e
      obtain ⟨a2, vs, rfl, t, p, z⟩ := seq_of hr hb e1
      refine op_in_seq pins s σ H _ _ v u Q I rx ry ⟨a2, vs, rfl, t, flat_of hf.1 ha, flats_of hf.2 p, ?_⟩
      rw [if_neg Bool.false_ne_true, inV_of hf.2 hf.1 p ha]
      exact q
    · cases e
  | notin =>
    simp only [cmpM, inM, Option.bind_eq_some_iff, Option.map_eq_some_iff] at e
    obtain ⟨c0, ⟨xs, e1, e⟩, rfl⟩ := e
    split at e
    · rename_i hf
      cases e
      obtain ⟨a2, vs, rfl, t, p, z⟩ := seq_of hr hb e1
      refine op_notIn_seq pins s σ H _ _ v u Q I rx ry ⟨a2, vs, rfl, t, flat_of hf.1 ha, flats_of hf.2 p, ?_⟩
      rw [if_pos rfl, inV_of hf.2 hf.1 p ha]
      exact q
    · cases e
end
end MP
namespace MP
open PySem PySem.Spec PyProof.Rows L2
def rBi (K : Fra) (f : Bi) : List V → Hp → VK → Prop := fun vs H Q => ∃ φ h ms r, HR K φ h H ∧ RVs K φ H vs ms ∧ biM f h ms = some r ∧ Post K φ H Q r
section
variable {K : Fra} {φ φ' φ1 φ2 : List Addr} {H H' H1 H2 : Hp} {h h' h1 h2 : MH} {v : V} {m : MV} {env : Env} {σ : L2.St}
theorem RVs.is1 {vs : List V} {m : MV} (r : RVs K φ H vs [m]) : ∃ v, vs = [v] ∧ RV K φ H v m := by
  obtain ⟨v, ws, rfl, h1, h2⟩ := r
  cases h2
  exact ⟨v, rfl, h1⟩
theorem RVs.is2 {vs : List V} {m n : MV} (r : RVs K φ H vs [m, n]) : ∃ v u, vs = [v, u] ∧ RV K φ H v m ∧ RV K φ H u n := by
  obtain ⟨v, ws, rfl, h1, h2⟩ := r
  obtain ⟨u, rfl, h3⟩ := RVs.is1 h2
  exact ⟨v, u, rfl, h1, h3⟩
theorem lst_of {m : MV} {v : V} {xs : List MV} (hr : HR K φ h H) (r : RV K φ H v m) (e : lstM h m = some xs) : ∃ a vs, v = .ref a ∧ SqL K H a vs ∧ RVs K φ H vs xs ∧ xs.length ≤ sizeLine := by
  cases m with
  | frl ys =>
    cases e
    obtain ⟨a, vs, rfl, t, q, z⟩ := r
    exact ⟨a, vs, rfl, t.sq, q, z⟩
  | ref p =>
    obtain ⟨a, ea, rfl⟩ := r
    simp only [lstM] at e
    split at e
    · rename_i ys hy
      cases e
      obtain ⟨vs, q1, q2, q3⟩ := hr.lst ea hy
      exact ⟨a, vs, rfl, .of q1, q2, q3⟩
    · cases e
  | _ => cases e
theorem ints_of : ∀ {xs : List MV} {ns : List Int} {vs : List V}, intsM xs = some ns → RVs K φ H vs xs → vs = ns.map V.int
  | [], ns, vs, e, r => by cases e; cases r; rfl
  | x :: xs, ns, vs, e, r => by
    obtain ⟨v, ws, rfl, h1, h2⟩ := r
    cases x <;> simp only [intsM, Option.map_eq_some_iff] at e <;> first | (cases e; done) | skip
    obtain ⟨ms, e1, rfl⟩ := e
    cases h1
    rw [ints_of e1 h2]; rfl
theorem bls_of : ∀ {xs : List MV} {ns : List Bool} {vs : List V}, blsM xs = some ns → RVs K φ H vs xs → vs = ns.map V.bl
  | [], ns, vs, e, r => by cases e; cases r; rfl
  | x :: xs, ns, vs, e, r => by
    obtain ⟨v, ws, rfl, h1, h2⟩ := r
    cases x <;> simp only [blsM, Option.map_eq_some_iff] at e <;> first | (cases e; done) | skip
    obtain ⟨ms, e1, rfl⟩ := e
    cases h1
    rw [bls_of e1 h2]; rfl
theorem maxL_ge : ∀ {ns : List Int} {y : Int}, y ∈ ns → y ≤ maxL ns
  | [], _, h => by simp at h
  | [x], y, h => by simp at h; subst h; exact Int.le_refl _
  | x :: z :: r, y, h => by
    have ih : ∀ y ∈ z :: r, y ≤ maxL (z :: r) := fun y hy => maxL_ge hy
    unfold maxL
    rcases List.mem_cons.mp h with e | e
    · subst e; split <;> omega
    · have := ih y e; split <;> omega
theorem maxL_mem : ∀ {ns : List Int}, ns ≠ [] → maxL ns ∈ ns
  | [], h => absurd rfl h
  | [x], _ => List.mem_singleton.mpr rfl
  | x :: z :: r, _ => by
    have ih : maxL (z :: r) ∈ z :: r := maxL_mem (List.cons_ne_nil _ _)
    unfold maxL
    split
    · exact List.mem_cons_of_mem _ ih
    · exact List.mem_cons_self
theorem minL_le : ∀ {ns : List Int} {y : Int}, y ∈ ns → minL ns ≤ y
  | [], _, h => by simp at h
  | [x], y, h => by simp at h; subst h; exact Int.le_refl _
  | x :: z :: r, y, h => by
    have ih : ∀ y ∈ z :: r, minL (z :: r) ≤ y := fun y hy => minL_le hy
    unfold minL
    rcases List.mem_cons.mp h with e | e
    · subst e; split <;> omega
    · have := ih y e; split <;> omega
theorem minL_mem : ∀ {ns : List Int}, ns ≠ [] → minL ns ∈ ns
  | [], h => absurd rfl h
  | [x], _ => List.mem_singleton.mpr rfl
  | x :: z :: r, _ => by
    have ih : minL (z :: r) ∈ z :: r := minL_mem (List.cons_ne_nil _ _)
    unfold minL
    split
    · exact List.mem_cons_of_mem _ ih
    · exact List.mem_cons_self
end
section
variable {X : Cx}
theorem cLen : CallR X (.builtin "len") (rBi X.K .len) := by
  intro pins s σ H xs us Q I r hh
  obtain ⟨φ, h, ms, q, hr, rs, e, p⟩ := hh
  have e : lenM h ms = some q := e
  unfold lenM at e
  split at e
  · cases e
    obtain ⟨v, rfl, w, z⟩ := RVs.is1 rs
    subst w
    exact call_len pins s σ H _ us Q I r ⟨_, _, rfl, ⟨z, rfl⟩, p.now hr rfl⟩
  · simp only [Option.map_eq_some_iff] at e
    obtain ⟨ys, e1, rfl⟩ := e
    obtain ⟨v, rfl, w⟩ := RVs.is1 rs
    obtain ⟨a, vs, rfl, t, q1, z⟩ := seq_of hr w e1
    refine call_len_seq pins s σ H _ us Q I r ⟨a, vs, rfl, t, ?_⟩
    rw [q1.len]
    exact p.now hr rfl
  · cases e
theorem cInt : CallR X (.type "int") (rBi X.K .int) := by
  intro pins s σ H xs us Q I r hh
  obtain ⟨φ, h, ms, q, hr, rs, e, p⟩ := hh
  have e : intM h ms = some q := e
  unfold intM at e
  split at e
  · cases e
    obtain ⟨v, rfl, w⟩ := RVs.is1 rs
    cases w
    exact call_int1 pins s σ H _ us Q I r (.inl ⟨_, rfl, p.now hr rfl⟩)
  · cases e
    obtain ⟨v, rfl, w⟩ := RVs.is1 rs
    cases w
    exact call_int1 pins s σ H _ us Q I r (.inr ⟨_, rfl, p.now hr rfl⟩)
  · cases e
theorem cAbs : CallR X (.builtin "abs") (rBi X.K .abs) := by
  intro pins s σ H xs us Q I r hh
  obtain ⟨φ, h, ms, q, hr, rs, e, p⟩ := hh
  have e : absM h ms = some q := e
  unfold absM at e
  split at e
  · cases e
    obtain ⟨v, rfl, w⟩ := RVs.is1 rs
    cases w
    exact call_abs pins s σ H _ us Q I r ⟨_, rfl, p.now hr rfl⟩
  · cases e
theorem cMax (hc : X.calm = true) : CallR X (.builtin "max") (rBi X.K .max) := by
  intro pins s σ H xs us Q I r hh
  obtain ⟨φ, h, ms, q, hr, rs, e, p⟩ := hh
  have e : maxM h ms = some q := e
  unfold maxM at e
  split at e
  · cases e
    obtain ⟨v, u, rfl, w, w'⟩ := RVs.is2 rs
    cases w; cases w'
    exact call_max2 hc pins s σ H _ us Q I r ⟨_, _, rfl, p.now hr rfl⟩
  · simp only [Option.bind_eq_some_iff] at e
    obtain ⟨ys, e1, ns, e2, e⟩ := e
    obtain ⟨v, rfl, w⟩ := RVs.is1 rs
    obtain ⟨a, vs, rfl, t, q1, z⟩ := lst_of hr w e1
    split at e
    · cases e
    · rename_i hn
      cases e
      have := ints_of e2 q1
      subst this
      refine cr_max hc pins s σ H _ us Q I r ⟨a, ns, rfl, t, List.length_pos_iff.mpr hn, fun m h1 h2 => ?_⟩
      have em : m = maxL ns := Int.le_antisymm (maxL_ge h1) (h2 _ (maxL_mem hn))
      rw [em]
      exact p.now hr rfl
  · cases e
theorem cMin (hc : X.calm = true) : CallR X (.builtin "min") (rBi X.K .min) := by
  intro pins s σ H xs us Q I r hh
  obtain ⟨φ, h, ms, q, hr, rs, e, p⟩ := hh
  have e : minM h ms = some q := e
  unfold minM at e
  split at e
  · cases e
    obtain ⟨v, u, rfl, w, w'⟩ := RVs.is2 rs
    cases w; cases w'
    exact call_min2 hc pins s σ H _ us Q I r ⟨_, _, rfl, p.now hr rfl⟩
  · simp only [Option.bind_eq_some_iff] at e
    obtain ⟨ys, e1, ns, e2, e⟩ := e
    obtain ⟨v, rfl, w⟩ := RVs.is1 rs
    obtain ⟨a, vs, rfl, t, q1, z⟩ := lst_of hr w e1
    split at e
    · cases e
    · rename_i hn
      cases e
      have := ints_of e2 q1
      subst this
      refine cr_min hc pins s σ H _ us Q I r ⟨a, ns, rfl, t, List.length_pos_iff.mpr hn, fun m h1 h2 => ?_⟩
      have em : m = minL ns := Int.le_antisymm (h2 _ (minL_mem hn)) (minL_le h1)
      rw [em]
      exact p.now hr rfl
  · cases e
theorem cSum (hc : X.calm = true) : CallR X (.builtin "sum") (rBi X.K .sum) := by
  intro pins s σ H xs us Q I r hh
  obtain ⟨φ, h, ms, q, hr, rs, e, p⟩ := hh
  have e : sumM h ms = some q := e
  unfold sumM at e
  split at e
  · simp only [Option.bind_eq_some_iff, Option.map_eq_some_iff] at e
    obtain ⟨ys, e1, ns, e2, rfl⟩ := e
    obtain ⟨v, rfl, w⟩ := RVs.is1 rs
    obtain ⟨a, vs, rfl, t, q1, z⟩ := lst_of hr w e1
    have := ints_of e2 q1
    subst this
    exact cr_sum hc pins s σ H _ us Q I r ⟨a, ns, rfl, t, p.now hr rfl⟩
  · cases e
theorem cAll (hc : X.calm = true) : CallR X (.builtin "all") (rBi X.K .all) := by
  intro pins s σ H xs us Q I r hh
  obtain ⟨φ, h, ms, q, hr, rs, e, p⟩ := hh
  have e : allM h ms = some q := e
  unfold allM at e
  split at e
  · simp only [Option.bind_eq_some_iff, Option.map_eq_some_iff] at e
    obtain ⟨ys, e1, ns, e2, rfl⟩ := e
    obtain ⟨v, rfl, w⟩ := RVs.is1 rs
    obtain ⟨a, vs, rfl, t, q1, z⟩ := lst_of hr w e1
    have := bls_of e2 q1
    subst this
    exact cr_all hc pins s σ H _ us Q I r ⟨a, ns, rfl, t, p.now hr rfl⟩
  · cases e
theorem cAny (hc : X.calm = true) : CallR X (.builtin "any") (rBi X.K .any) := by
  intro pins s σ H xs us Q I r hh
  obtain ⟨φ, h, ms, q, hr, rs, e, p⟩ := hh
  have e : anyM h ms = some q := e
  unfold anyM at e
  split at e
  · simp only [Option.bind_eq_some_iff, Option.map_eq_some_iff] at e
    obtain ⟨ys, e1, ns, e2, rfl⟩ := e
    obtain ⟨v, rfl, w⟩ := RVs.is1 rs
    obtain ⟨a, vs, rfl, t, q1, z⟩ := lst_of hr w e1
    have := bls_of e2 q1
    subst this
    exact cr_any hc pins s σ H _ us Q I r ⟨a, ns, rfl, t, p.now hr rfl⟩
  · cases e
theorem cList : CallR X (.type "list") (rBi X.K .list) := by
  intro pins s σ H xs us Q I r hh
  obtain ⟨φ, h, ms, q, hr, rs, e, p⟩ := hh
  have e : listM h ms = some q := e
  unfold listM at e
  split at e
  · simp only [Option.map_eq_some_iff] at e
    obtain ⟨ys, e1, rfl⟩ := e
    obtain ⟨v, rfl, w⟩ := RVs.is1 rs
    obtain ⟨a, vs, rfl, t, q1, z⟩ := seq_of hr w e1
    exact call_list_of pins s σ H _ us Q I r ⟨a, vs, rfl, t, p.lst hr q1 z⟩
  · cases e
theorem cTuple : CallR X (.type "tuple") (rBi X.K .tuple) := by
  intro pins s σ H xs us Q I r hh
  obtain ⟨φ, h, ms, q, hr, rs, e, p⟩ := hh
  have e : tupleM h ms = some q := e
  unfold tupleM at e
  split at e
  · simp only [Option.map_eq_some_iff] at e
    obtain ⟨ys, e1, rfl⟩ := e
    obtain ⟨v, rfl, w⟩ := RVs.is1 rs
    obtain ⟨a, vs, rfl, t, q1, z⟩ := seq_of hr w e1
    refine call_tuple_of pins s σ H _ us Q I r ⟨a, vs, rfl, ?_⟩
    rcases t with t | t
    · exact .inl ⟨t, p.tup hr q1 z⟩
    · exact .inr ⟨t, p.now hr ⟨a, vs, rfl, t, q1, z⟩⟩
  · cases e
def rIM (K : Fra) : R2 := fun x y H Q => ∃ φ h a b r, HR K φ h H ∧ RV K φ H x a ∧ RV K φ H y b ∧ atM h a b = some r ∧ Post K φ H Q (r, h)
theorem ixM : IxR X (rIM X.K) := by
  intro value sl pins s σ H x y v u Q I rx ry hh hsub
  obtain ⟨φ, h, a, b, r, hr, ha, hb, e, q⟩ := hh
  unfold atM at e
  split at e
  · rename_i j
    cases hb
    split at e
    · rename_i z
      simp only [Option.map_eq_some_iff] at e
      obtain ⟨c, e1, rfl⟩ := e
      obtain ⟨rfl, hz⟩ := ha
      exact ix_str value sl pins s σ H _ _ v u Q I rx ry ⟨z, j, c, rfl, rfl, hz, e1, q.now hr ⟨rfl, by show 1 ≤ sizeLine; decide⟩⟩ hsub
    · simp only [Option.bind_eq_some_iff] at e
      obtain ⟨xs, e1, e2⟩ := e
      obtain ⟨p, vs, rfl, t, q1, z⟩ := seq_of hr ha e1
      have ex : ∃ w, atI vs j = some w ∧ RV X.K φ H w r := by
        unfold atI at e2 ⊢
        simp only [Option.bind_eq_some_iff] at e2 ⊢
        obtain ⟨k, e3, e4⟩ := e2
        obtain ⟨w, e5, e6⟩ := q1.get e4
        exact ⟨w, ⟨k, by rw [q1.len]; exact e3, e5⟩, e6⟩
      obtain ⟨w, e3, e4⟩ := ex
      rcases t with t | t
      · exact ix_list value sl pins s σ H _ _ v u Q I rx ry ⟨p, vs, j, w, rfl, rfl, t, e3, q.now hr e4⟩ hsub
      · exact ix_tup value sl pins s σ H _ _ v u Q I rx ry ⟨p, vs, j, w, rfl, rfl, t, e3, q.now hr e4⟩ hsub
  · cases e
def rSlM (K : Fra) : V → Option Int → Option Int → Hp → VK → Prop := fun x l u H Q => ∃ φ h a r, HR K φ h H ∧ RV K φ H x a ∧ sliceM h a l u = some r ∧ Post K φ H Q r
theorem cut_of {K : Fra} {φ : List Addr} {H : Hp} {xs : List MV} {vs : List V} (l u : Option Int) (r : RVs K φ H vs xs) : RVs K φ H (cutV vs l u) (cutM xs l u) := by
  unfold cutV cutM
  rw [r.len]
  exact (r.drop _).take _
theorem cutM_len (xs : List MV) (l u : Option Int) : (cutM xs l u).length ≤ xs.length := by
  unfold cutM
  rw [List.length_take, List.length_drop]
  omega
theorem slM : SlR X (rSlM X.K) := by
  intro pins s σ H x v vl vu lo hi sl Q I rx hs pl pu hh
  obtain ⟨φ, h, a, r, hr, ha, e, q⟩ := hh
  unfold sliceM at e
  split at e
  · rename_i xs
    cases e
    obtain ⟨p, vs, rfl, t, q1, z⟩ := ha
    have hz := Nat.le_trans (cutM_len xs lo hi) z
    refine sl_tupA pins s σ H _ v vl vu lo hi sl Q I rx hs pl pu ⟨p, vs, rfl, t, fun w => ?_, fun _ => q.tup hr (cut_of lo hi q1) hz⟩
    refine q.now hr ⟨p, vs, rfl, t, ?_, hz⟩
    have := cut_of lo hi q1
    have e2 : cutV vs lo hi = vs := by
      unfold cutV
      rw [w.1, w.2, List.drop_zero, Nat.sub_zero, List.take_length]
    rw [e2] at this
    exact this
  · rename_i n
    split at e
    · rename_i xs hx
      cases e
      obtain ⟨p, ep, rfl⟩ := ha
      obtain ⟨vs, q1, q2, q3⟩ := hr.lst ep hx
      exact sl_list pins s σ H _ v vl vu lo hi sl Q I rx hs pl pu ⟨p, vs, rfl, .of q1, q.lst hr (cut_of lo hi q2) (Nat.le_trans (cutM_len xs lo hi) q3)⟩
    · cases e
  · cases e
def rMe (K : Fra) (m : Me) : V → List V → Hp → VK → Prop := fun x vs H Q => ∃ φ h a ms r, HR K φ h H ∧ RV K φ H x a ∧ RVs K φ H vs ms ∧ methM m h a ms = some r ∧ Post K φ H Q r
theorem mAppend : MtM X "list.append" (rMe X.K .append) := by
  intro pins s σ H x xs v us Q I rx rs hh
  obtain ⟨φ, h, a, ms, r, hr, ha, hs, e, q⟩ := hh
  unfold methM at e
  split at e
  · rename_i n
    change appendM h n ms = some r at e
    unfold appendM at e
    split at e
    · rename_i m
      split at e
      · rename_i ys hy
        split at e
        · rename_i hl
          cases e
          obtain ⟨w, rfl, hw⟩ := RVs.is1 hs
          obtain ⟨p, ep, rfl⟩ := ha
          obtain ⟨vs, q1, q2, q3⟩ := hr.lst ep hy
          have e3 : (ys ++ [m]).length ≤ sizeLine := by rw [List.length_append]; exact hl
          exact mt_append pins s σ H _ _ v us Q I rx rs ⟨p, vs, w, rfl, rfl, q1, by rw [q2.len]; exact hl, q φ _ _ (stp_set ep) (hr.put ep (q2.app (.one hw)) e3) rfl⟩
        · cases e
      · cases e
    · cases e
  · cases e
theorem mPop : MtM X "list.pop" (rMe X.K .pop) := by
  intro pins s σ H x xs v us Q I rx rs hh
  obtain ⟨φ, h, a, ms, r, hr, ha, hs, e, q⟩ := hh
  unfold methM at e
  split at e
  · rename_i n
    change popM h n ms = some r at e
    unfold popM at e
    split at e
    · rename_i i
      split at e
      · rename_i ys hy
        split at e
        · rename_i hl
          simp only [Option.bind_eq_some_iff, Option.map_eq_some_iff] at e
          obtain ⟨k, e1, y, e2, rfl⟩ := e
          obtain ⟨w, rfl, hw⟩ := RVs.is1 hs
          cases hw
          obtain ⟨p, ep, rfl⟩ := ha
          obtain ⟨vs, q1, q2, q3⟩ := hr.lst ep hy
          obtain ⟨u, e3, e4⟩ := q2.get e2
          refine mt_popAt pins s σ H _ _ v us Q I rx rs ⟨p, vs, i, k, u, rfl, rfl, q1, hl.1, hl.2, by rw [q2.len]; exact (ixN_seq e1).1, e3, ?_⟩
          have hz : (ys.eraseIdx k).length ≤ sizeLine := Nat.le_trans (len_erase ys k) q3
          exact q φ _ _ (stp_set ep) (hr.put ep q2.erase hz) (RV.mono (stp_set ep) hr.dom _ _ e4)
        · cases e
      · cases e
    · split at e
      · rename_i ys hy
        simp only [Option.map_eq_some_iff] at e
        obtain ⟨y, e2, rfl⟩ := e
        cases hs
        obtain ⟨p, ep, rfl⟩ := ha
        obtain ⟨vs, q1, q2, q3⟩ := hr.lst ep hy
        obtain ⟨u, e3, e4⟩ := q2.get e2
        refine mt_pop pins s σ H _ _ v us Q I rx rs ⟨p, vs, u, rfl, rfl, q1, by rw [q2.len]; exact e3, ?_⟩
        exact q φ _ _ (stp_set ep) (hr.put ep q2.dropLast (by rw [List.length_dropLast]; omega)) (RV.mono (stp_set ep) hr.dom _ _ e4)
      · cases e
    · cases e
  · cases e
def rSetM (K : Fra) : TSet := fun o i v H Q => ∃ φ h a b c h', HR K φ h H ∧ RV K φ H o a ∧ RV K φ H i b ∧ RV K φ H v c ∧ setM h a b c = some h' ∧ ∀ H', Stp φ H φ H' → HR K φ h' H' → Q H'
theorem setR : PSet X (rSetM X.K) := by
  intro pins s σ H o i v ov iv u Q I ro ri rv hh
  obtain ⟨φ, h, a, b, c, h', hr, ha, hb, hc, e, q⟩ := hh
  unfold setM at e
  split at e
  · rename_i n j
    split at e
    · rename_i xs hx
      simp only [Option.map_eq_some_iff] at e
      obtain ⟨k, e1, rfl⟩ := e
      cases hb
      obtain ⟨p, ep, rfl⟩ := ha
      obtain ⟨vs, q1, q2, q3⟩ := hr.lst ep hx
      exact set_list pins s σ H _ _ v ov iv u Q I ro ri rv ⟨p, vs, j, k, rfl, rfl, q1, by rw [q2.len]; exact e1, q _ (stp_set ep) (hr.put ep (q2.set hc) (by rw [List.length_set]; exact q3))⟩
    · cases e
  · cases e
def tyS : TyN → String
  | .int => "int" | .bool => "bool" | .str => "str" | .tuple => "tuple" | .list => "list"
def kdB (a : String) (t : TyN) : Bool := match a, t with
  | "bool", .bool => true | "bool", .int => true | "int", .int => true | "str", .str => true | "tuple", .tuple => true | "list", .list => true | _, _ => false
theorem kd_non (t : TyN) : kitB "NoneType" (tyS t) = some false := by cases t <;> decide +kernel
theorem kd_bool (t : TyN) : kitB "bool" (tyS t) = some (decide (t = .bool ∨ t = .int)) := by cases t <;> decide +kernel
theorem kd_int (t : TyN) : kitB "int" (tyS t) = some (decide (t = .int)) := by cases t <;> decide +kernel
theorem kd_str (t : TyN) : kitB "str" (tyS t) = some (decide (t = .str)) := by cases t <;> decide +kernel
theorem kd_tup (t : TyN) : kitB "tuple" (tyS t) = some (decide (t = .tuple)) := by cases t <;> decide +kernel
theorem kd_lst (t : TyN) : kitB "list" (tyS t) = some (decide (t = .list)) := by cases t <;> decide +kernel
def rIsM (K : Fra) (t : TyN) : List V → Hp → VK → Prop := fun vs H Q => ∃ φ h m x c, HR K φ h H ∧ vs = [x, .ty (tyS t)] ∧ RV K φ H x m ∧ isiM h m t = some c ∧ Q (.bl c) H
theorem sqt_ty {K : Fra} {H : Hp} {a : Addr} {vs : List V} (h : SqT K H a vs) : TyX K H (.ref a) (.type "tuple") := by
  rcases h with (h | ⟨o, h⟩) | ⟨o, its, n, h1, h2, _⟩
  · exact .base (.tup h)
  · exact .fTuple h
  · exact .kTuple h1 h2
theorem frl_ty {K : Fra} {H : Hp} {a : Addr} {vs : List V} (h : FrL K H a vs) : TyX K H (.ref a) (.type "list") := by
  rcases h with ⟨o, h⟩ | ⟨o, its, n, h1, h2, _⟩
  · exact .base (.frz h)
  · exact .kList h1 h2
theorem isiM_ref {h : MH} {n : Nat} {t : TyN} : isiM h (.ref n) t = match h[n]? with | some (.lst _) => some (decide (t = .list)) | none => none := by cases t <;> rfl
theorem cIsi (t : TyN) : CallR X (.builtin "isinstance") (rIsM X.K t) := by
  intro pins s σ H xs us Q I r hh
  obtain ⟨φ, h, m, x, c, hr, rfl, rx, e, q⟩ := hh
  have fin : ∀ (y : String) (b : Bool), TyX X.K H x (.type y) → kitB y (tyS t) = some b → c = b → wpAny (model X.prog X.w) X.A (call (.builtin "isinstance") us) (EP X pins σ Q) X.xe s := fun y b ty ek ec =>
    call_isi pins s σ H _ us Q I r ⟨x, .ty (tyS t), _, _, b, rfl, .ty _, ty, kit_ty ek, by rw [← ec]; exact q⟩
  cases m with
  | non => cases e; cases rx; exact fin _ _ (.base .non) (kd_non t) rfl
  | bl b => cases rx; cases t <;> cases e <;> exact fin _ _ (.base (.bl b)) (kd_bool _) (by decide)
  | int i => cases rx; cases t <;> cases e <;> exact fin _ _ (.base (.int i)) (kd_int _) (by decide)
  | str i => obtain ⟨rfl, _⟩ := rx; cases t <;> cases e <;> exact fin _ _ (.base (.str i)) (kd_str _) (by decide)
  | tup i => obtain ⟨a, vs, rfl, t1, _, _⟩ := rx; cases t <;> cases e <;> exact fin _ _ (sqt_ty t1) (kd_tup _) (by decide)
  | frl i => obtain ⟨a, vs, rfl, t1, _, _⟩ := rx; cases t <;> cases e <;> exact fin _ _ (frl_ty t1) (kd_lst _) (by decide)
  | ref n =>
    obtain ⟨a, ea, rfl⟩ := rx
    rw [isiM_ref] at e
    split at e
    · rename_i xs hx
      cases e
      obtain ⟨vs, q1, _⟩ := hr.lst ea hx
      exact fin _ _ (.base (.lst q1)) (kd_lst t) rfl
    · cases e
end
end MP
namespace MP
open PySem PySem.Spec PyProof.Rows L2
def WalkM (K : Fra) (φ : List Addr) (H : Hp) (J : It) (st : Its) : Prop := st.items.length ≤ sizeLine ∧ ∃ G Y, Walk J st.items.length G Y ∧
  (∀ φ2 h2 H2, Stp φ H φ2 H2 → HR K φ2 h2 H2 → st.still h2 → G H2) ∧
  (∀ i H2 x H3 φ2 h2, i < st.items.length → Stp φ H φ2 H2 → HR K φ2 h2 H2 → st.still h2 → Y i H2 x H3 → ∃ m, st.items[i]? = some m ∧ RV K φ2 H3 x m ∧ Stp φ2 H2 φ2 H3 ∧ HR K φ2 h2 H3)
def tI (K : Fra) (ev : Env → MH → Option (Its × MH)) : TI := fun σ H R' => ∃ φ h env q, Ew K φ h env σ H ∧ ev env h = some q ∧ ∀ φ' H' J, Stp φ H φ' H' → HR K φ' q.2 H' → WalkM K φ' H' J q.1 → R' J H'
section
variable {K : Fra} {φ φ' φ1 φ2 : List Addr} {H H' H1 H2 : Hp} {h h' h1 h2 : MH} {v : V} {m : MV} {env : Env} {σ : L2.St}
theorem walkM_tup {a : Addr} {vs : List V} {xs : List MV} (d : Dom φ H) (t : SqT K H a vs) (r : RVs K φ H vs xs) (z : xs.length ≤ sizeLine) : WalkM K φ H (Itt K a) ⟨xs, none⟩ := by
  have w : Walk (Itt K a) vs.length (fun H => SqT K H a vs) (YAt vs) := walk_tup
  rw [r.len] at w
  refine ⟨z, _, _, w, fun φ2 h2 H2 s hr _ => s.tup d t, fun i H2 x H3 φ2 h2 hi s hr _ y => ?_⟩
  obtain ⟨rfl, y⟩ := y
  obtain ⟨m, e1, e2⟩ := r.get' y
  exact ⟨m, e1, RV.mono s d _ _ e2, .refl, hr⟩
theorem walkM_frl {a : Addr} {vs : List V} {xs : List MV} (d : Dom φ H) (t : FrL K H a vs) (r : RVs K φ H vs xs) (z : xs.length ≤ sizeLine) : WalkM K φ H (Itl K a) ⟨xs, none⟩ := by
  have w : Walk (Itl K a) vs.length (fun H => SqL K H a vs) (YAt vs) := walk_list
  rw [r.len] at w
  refine ⟨z, _, _, w, fun φ2 h2 H2 s hr _ => ((s.wk d).frl t).sq, fun i H2 x H3 φ2 h2 hi s hr _ y => ?_⟩
  obtain ⟨rfl, y⟩ := y
  obtain ⟨m, e1, e2⟩ := r.get' y
  exact ⟨m, e1, RV.mono s d _ _ e2, .refl, hr⟩
theorem walkM_lst {a : Addr} {p : Nat} {xs : List MV} (ep : φ[p]? = some a) (z : xs.length ≤ sizeLine) : WalkM K φ H (Itl K a) ⟨xs, some (p, xs)⟩ := by
  have w : Walk (Itl K a) xs.length (fun H => ∃ vs, SqL K H a vs ∧ vs.length = xs.length) (fun i H x H' => H' = H ∧ ∀ vs, SqL K H a vs → vs[i]? = some x) :=
    ⟨fun i H hi ⟨vs, q, e⟩ => ⟨vs, vs[i]'(by rw [e]; exact hi), q, List.getElem?_eq_getElem _⟩, fun H ⟨vs, q, e⟩ => ⟨vs, q, by rw [e]; exact Nat.le_refl _⟩, fun _ _ _ _ _ _ y => y⟩
  refine ⟨z, _, _, w, fun φ2 h2 H2 s hr st => ?_, fun i H2 x H3 φ2 h2 hi s hr st y => ?_⟩
  · obtain ⟨vs, q1, q2, _⟩ := hr.lst (s.get ep) (show h2[p]? = some (.lst xs) from st)
    exact ⟨vs, .of q1, q2.len⟩
  · obtain ⟨rfl, y⟩ := y
    obtain ⟨vs, q1, q2, _⟩ := hr.lst (s.get ep) (show h2[p]? = some (.lst xs) from st)
    obtain ⟨m, e1, e2⟩ := q2.get' (y vs (.of q1))
    exact ⟨m, e1, e2, .refl, hr⟩
theorem walkM_rng {lo : Int} {n : Nat} (z : n ≤ sizeLine) : WalkM K φ H (Itr lo n) ⟨(List.range n).map fun i => .int (lo + ((i : Nat) : Int)), none⟩ := by
  have w : Walk (Itr lo n) n (fun _ => True) (YFn fun i => .int (lo + (i : Nat))) := walk_range
  have e : ((List.range n).map fun i => MV.int (lo + ((i : Nat) : Int))).length = n := by rw [List.length_map, List.length_range]
  refine ⟨by rw [e]; exact z, _, _, (by rw [e]; exact w), fun _ _ _ _ _ _ => True.intro, fun i H2 x H3 φ2 h2 hi s hr _ y => ?_⟩
  obtain ⟨rfl, rfl⟩ := y
  rw [e] at hi
  refine ⟨.int (lo + (i : Nat)), ?_, rfl, .refl, hr⟩
  show ((List.range n).map fun i => MV.int (lo + ((i : Nat) : Int)))[i]? = _
  rw [List.getElem?_map, List.getElem?_range hi]
  rfl
theorem pi_ex {X : Cx} {tg ex : Expr} {ev : Env → MH → R} (he : PE X ex (tEv X.K ev)) : PI X tg ex (tI X.K fun env h => (ev env h).bind fun r => itsG .ex h ([r.1], r.2)) := by
  refine ⟨fun pins s σ H R' I hh => ?_⟩
  obtain ⟨φ, h, env, q, w, e, k⟩ := hh
  simp only [Option.bind_eq_some_iff, itsG, Option.map_eq_some_iff] at e
  obtain ⟨r, e1, st, e2, rfl⟩ := e
  unfold itsM at e2
  obtain ⟨r1, r2⟩ := r
  simp only at e2
  cases hv : (gc h (r1, r2)).1 with
  | tup xs =>
    rw [hv] at e2
    cases e2
    refine (pi_tup (tg := tg) he).run pins s σ H R' I (go w e1 fun φ1 H1 v s1 w1 rv => ?_)
    obtain ⟨φ2, s2, hr2, rv2⟩ := gc_ok w.hr s1 w1.hr rv
    rw [hv] at rv2
    obtain ⟨a, vs, rfl, t, rr, z⟩ := rv2
    exact ⟨a, rfl, ⟨vs, t⟩, k φ2 H1 _ s2 hr2 (walkM_tup hr2.dom t rr z)⟩
  | frl xs =>
    rw [hv] at e2
    cases e2
    refine (pi_list (tg := tg) he).run pins s σ H R' I (go w e1 fun φ1 H1 v s1 w1 rv => ?_)
    obtain ⟨φ2, s2, hr2, rv2⟩ := gc_ok w.hr s1 w1.hr rv
    rw [hv] at rv2
    obtain ⟨a, vs, rfl, t, rr, z⟩ := rv2
    exact ⟨a, rfl, ⟨vs, t.sq⟩, k φ2 H1 _ s2 hr2 (walkM_frl hr2.dom t rr z)⟩
  | ref p =>
    rw [hv] at e2
    simp only at e2
    split at e2
    · rename_i xs hx
      cases e2
      refine (pi_list (tg := tg) he).run pins s σ H R' I (go w e1 fun φ1 H1 v s1 w1 rv => ?_)
      obtain ⟨φ2, s2, hr2, rv2⟩ := gc_ok w.hr s1 w1.hr rv
      rw [hv] at rv2
      obtain ⟨a, ea, rfl⟩ := rv2
      obtain ⟨vs, q1, _, z⟩ := hr2.lst ea hx
      exact ⟨a, rfl, ⟨vs, .of q1⟩, k φ2 H1 _ s2 hr2 (walkM_lst ea z)⟩
    · cases e2
  | _ => rw [hv] at e2; cases e2
theorem pi_r1 {X : Cx} {tg a : Expr} {p pos : Pos} {ev : Env → MH → Option (List MV × MH)} (hg : Gl X "range") (hm : X.mg "range" = none) (ha : PA X [a] (tEs X.K ev)) (hs : starEach [a] X.env = [(false, eval a X.env)]) :
    PI X tg (.Call (.Name "range" p) [a] [] pos) (tI X.K fun env h => (ev env h).bind fun r => itsG .rng1 h r) := by
  refine ⟨fun pins s σ H R' I hh => ?_⟩
  obtain ⟨φ, h, env, q, w, e, k⟩ := hh
  simp only [Option.bind_eq_some_iff, itsG, Option.map_eq_some_iff] at e
  obtain ⟨r, e1, st, e2, rfl⟩ := e
  unfold itsM at e2
  simp only at e2
  split at e2
  · rename_i n hn
    split at e2
    · rename_i hz
      cases e2
      refine (pi_range1 (tg := tg) hg hm ha hs).run pins s σ H R' I (goA w e1 fun φ1 H1 v s1 w1 rv => ?_)
      rw [hn] at rv
      obtain ⟨u, rfl, ru⟩ := RVs.is1 rv
      cases ru
      obtain ⟨φ2, s2, hr2, _⟩ := gc_ok (v := .non) (r := (.non, r.2)) w.hr s1 w1.hr rfl
      have ez : ((List.range n.toNat).map fun i => MV.int ((i : Nat) : Int)) = (List.range n.toNat).map fun i => MV.int (0 + ((i : Nat) : Int)) := by
        congr 1; funext i; rw [Int.zero_add]
      refine ⟨n, rfl, hz.2, ?_, k φ2 H1 _ s2 hr2 ?_⟩
      · have := hz.1
        have e3 : (LIM : Int) < 2 ^ 62 := by decide
        omega
      · rw [ez]
        have hz1 : n ≤ 16777216 := hz.1
        exact walkM_rng (by show n.toNat ≤ 16777216; omega)
    · cases e2
  · cases e2
theorem pi_r2 {X : Cx} {tg a b : Expr} {p pos : Pos} {ev : Env → MH → Option (List MV × MH)} (hg : Gl X "range") (hm : X.mg "range" = none) (ha : PA X [a, b] (tEs X.K ev)) (hs : starEach [a, b] X.env = [(false, eval a X.env), (false, eval b X.env)]) (hs2 : starEach [b] X.env = [(false, eval b X.env)]) :
    PI X tg (.Call (.Name "range" p) [a, b] [] pos) (tI X.K fun env h => (ev env h).bind fun r => itsG .rng2 h r) := by
  refine ⟨fun pins s σ H R' I hh => ?_⟩
  obtain ⟨φ, h, env, q, w, e, k⟩ := hh
  simp only [Option.bind_eq_some_iff, itsG, Option.map_eq_some_iff] at e
  obtain ⟨r, e1, st, e2, rfl⟩ := e
  unfold itsM at e2
  simp only at e2
  split at e2
  · rename_i m n hn
    split at e2
    · rename_i hz
      cases e2
      refine (pi_range2 (tg := tg) hg hm ha hs hs2).run pins s σ H R' I (goA w e1 fun φ1 H1 v s1 w1 rv => ?_)
      rw [hn] at rv
      obtain ⟨u, u2, rfl, ru, ru2⟩ := RVs.is2 rv
      cases ru; cases ru2
      obtain ⟨φ2, s2, hr2, _⟩ := gc_ok (v := .non) (r := (.non, r.2)) w.hr s1 w1.hr rfl
      exact ⟨m, n, rfl, ⟨hz.1, hz.2.1, hz.2.2.1, hz.2.2.2.1⟩, k φ2 H1 _ s2 hr2 (walkM_rng hz.2.2.2.2)⟩
    · cases e2
  · cases e2
structure EnvR (K : Fra) (φ : List Addr) (H : Hp) (env : Env) (σ : L2.St) : Prop where
  len : env.length = σ.length
  at_ : ∀ (i : Nat) (m : MV), env[i]? = some (some m) → ∃ v, σ[i]? = some (some v) ∧ RV K φ H v m
theorem Ew.er (w : Ew K φ h env σ H) : EnvR K φ H env σ := ⟨w.len, w.at_⟩
theorem EnvR.ew (w : EnvR K φ H env σ) (hr : HR K φ h H) : Ew K φ h env σ H := ⟨hr, w.len, w.at_⟩
theorem EnvR.mono (w : EnvR K φ H env σ) (s : Wk φ H φ1 H1) : EnvR K φ1 H1 env σ := ⟨w.len, fun i m e => let ⟨v, e1, e2⟩ := w.at_ i m e; ⟨v, e1, RV.wk s m v e2⟩⟩
theorem EnvR.set (w : EnvR K φ H env σ) {i : Nat} (r : RV K φ H v m) : EnvR K φ H (env.set i (some m)) (σ.set i (some v)) := by
  refine ⟨by rw [List.length_set, List.length_set, w.len], fun j n e => ?_⟩
  rw [List.getElem?_set] at e ⊢
  split
  · rename_i hij
    rw [if_pos hij] at e
    split at e
    · rename_i hl
      cases e
      rw [if_pos (by rw [← w.len]; exact hl)]
      exact ⟨v, rfl, r⟩
    · cases e
  · rename_i hij
    rw [if_neg hij] at e
    exact w.at_ j n e
theorem EnvR.wipe (w : EnvR K φ H env σ) : ∀ vs : List Nat, EnvR K φ H (wipeM env vs) (L2.wipe σ vs)
  | [] => w
  | i :: is => by
    have ih := w.wipe is
    refine ⟨by show ((wipeM env is).set i none).length = ((L2.wipe σ is).set i none).length; rw [List.length_set, List.length_set, ih.len], fun j n e => ?_⟩
    have e : ((wipeM env is).set i none)[j]? = some (some n) := e
    show ∃ v, ((L2.wipe σ is).set i none)[j]? = some (some v) ∧ _
    rw [List.getElem?_set] at e ⊢
    split
    · rename_i hij
      rw [if_pos hij] at e
      split at e <;> cases e
    · rename_i hij
      rw [if_neg hij] at e
      exact ih.at_ j n e
mutual
def slotsT : Tg → List Nat
  | .nm i => [i]
  | .tup ts => slotsTs ts
def slotsTs : List Tg → List Nat
  | [] => []
  | t :: ts => slotsT t ++ slotsTs ts
end
/-- σ' is σ but for the slots in ns -/
def But (ns : List Nat) (σ σ' : L2.St) : Prop := σ'.length = σ.length ∧ ∀ j, j ∉ ns → σ'[j]? = σ[j]?
theorem But.wipe {ns vs : List Nat} {σ σ' : L2.St} (b : But ns σ σ') (hs : ∀ i ∈ ns, i ∈ vs) : L2.wipe σ' vs = L2.wipe σ vs := by
  apply List.ext_getElem?
  intro j
  by_cases hj : j ∈ vs
  · have gen : ∀ (τ : L2.St) (vs : List Nat), j ∈ vs → (L2.wipe τ vs)[j]? = if j < τ.length then some none else none := by
      intro τ vs
      induction vs with
      | nil => intro h; simp at h
      | cons v vs ih =>
        intro h
        show ((L2.wipe τ vs).set v none)[j]? = _
        rw [List.getElem?_set, wipe_length]
        by_cases hv : v = j
        · subst hv; simp
        · rw [if_neg hv]
          rcases List.mem_cons.mp h with e | e
          · exact absurd e.symm hv
          · exact ih e
    rw [gen _ _ hj, gen _ _ hj, b.1]
  · rw [wipe_out' hj, wipe_out' hj, b.2 j fun h => hj (hs j h)]
where wipe_out' {τ : L2.St} {j : Nat} : ∀ {vs : List Nat}, j ∉ vs → (L2.wipe τ vs)[j]? = τ[j]?
  | [], _ => rfl
  | v :: vs, h => by
    show ((L2.wipe τ vs).set v none)[j]? = _
    rw [List.getElem?_set_ne (fun e => h (by rw [e]; exact List.mem_cons_self)), wipe_out' fun e => h (List.mem_cons_of_mem _ e)]
def tTg (K : Fra) (t : Tg) : TG := fun v σ H Q => ∃ φ m env env', RV K φ H v m ∧ EnvR K φ H env σ ∧ bindT t m env = some env' ∧ ∀ σ', EnvR K φ H env' σ' → But (slotsT t) σ σ' → Q σ' H
def tTgs (K : Fra) (ts : List Tg) : TGs := fun vs σ H Q => ∃ φ ms env env', RVs K φ H vs ms ∧ EnvR K φ H env σ ∧ bindTs ts ms env = some env' ∧ ∀ σ', EnvR K φ H env' σ' → But (slotsTs ts) σ σ' → Q σ' H
theorem _root_.L2.PG.imp {X : Cx} {e : Expr} {t t' : TG} (h : PG X e t) (k : ∀ v σ H Q, t' v σ H Q → t v σ H Q) : PG X e t' := ⟨fun pins s σ H v u Q I r q => h.run pins s σ H v u Q I r (k _ _ _ _ q)⟩
theorem _root_.L2.PGs.imp {X : Cx} {e : List Expr} {t t' : TGs} (h : PGs X e t) (k : ∀ v σ H Q, t' v σ H Q → t v σ H Q) : PGs X e t' := ⟨fun pins s σ H v u Q I r q => h.run pins s σ H v u Q I r (k _ _ _ _ q)⟩
end
structure Cc where
  N : List Str
  sc : Scope
  fn : Str → Bool
def isGl (sc : Scope) (x : Str) : Bool := decide (sc.names.lookup x = some .globalImplicit)
def isVis (sc : Scope) (x : Str) : Bool := decide (sc.names.lookup x = some .local) || decide (sc.names.lookup x = some .cell) || decide (sc.names.lookup x = some .free)
def okN (x : Str) : Bool := !(x == ("__debug__" : Str)) && !(x == ("__classdict__" : Str))
def okX : Expr → Bool
  | .Starred _ _ => false | .Set _ _ _ => false | .Slice _ _ _ _ => false | _ => true
def plainT : Expr → Bool
  | .UnaryOp _ _ _ => false | .BoolOp _ _ _ => false | .IfExp _ _ _ _ => false | .Compare _ _ _ _ => false | _ => true
def notComp : Expr → Bool
  | .ListComp _ _ _ _ => false | .SetComp _ _ _ _ => false | .DictComp _ _ _ _ _ => false | _ => true
def notSuper : Expr → Bool
  | .Call _ _ _ _ => false | _ => true
def notTup : Expr → Bool
  | .Tuple _ _ _ => false | .List _ _ => false | _ => true
/-- may be asked as a test -/
def tOk : Expr → Bool
  | .IfExp _ _ _ _ => false | _ => true
def biS : Bi → Str
  | .len => "len" | .int => "int" | .abs => "abs" | .max => "max" | .min => "min" | .sum => "sum" | .all => "all" | .any => "any" | .list => "list" | .tuple => "tuple"
def meS : Me → Str
  | .append => "append" | .pop => "pop"
def tyN : TyN → Str
  | .int => "int" | .bool => "bool" | .str => "str" | .tuple => "tuple" | .list => "list"
mutual
def chkT (c : Cc) (tx : Expr) (t : Tg) : Bool := match t with
  | .nm i => match tx with
    | .Name x _ => decide (c.N[i]? = some x) && (decide (c.sc.names.lookup x = some .local) || (decide (c.sc.names.lookup x = some .cell) && c.fn x))
    | _ => false
  | .tup ts => match tx with
    | .Tuple es _ _ => chkTs c es ts
    | _ => false
def chkTs (c : Cc) (txs : List Expr) (ts : List Tg) : Bool := match ts with
  | [] => match txs with
    | [] => true
    | _ => false
  | t :: ts => match txs with
    | tx :: txs => okX tx && chkT c tx t && chkTs c txs ts
    | [] => false
end
/-- range(..) -/
def chkR (c : Cc) (k : IK) (iter : Expr) (f : List Expr → Bool) : Bool := match k with
  | .ex => false
  | .rng1 => match iter with
    | .Call (.Name n _) [x] [] _ => decide (n = "range") && isGl c.sc n && f [x]
    | _ => false
  | .rng2 => match iter with
    | .Call (.Name n _) [x, y] [] _ => decide (n = "range") && isGl c.sc n && f [x, y]
    | _ => false
def chkI (c : Cc) (k : IK) (iter : Expr) (f : List Expr → Bool) : Bool := match k with
  | .ex => f [iter]
  | .rng1 => chkR c .rng1 iter f
  | .rng2 => chkR c .rng2 iter f
theorem chkR_of {c : Cc} {iter : Expr} {k : IK} {f : List Expr → Bool} (h : chkR c k iter f = true) : (k = .rng1 ∧ ∃ p x p2, iter = .Call (.Name "range" p) [x] [] p2 ∧ isGl c.sc "range" = true ∧ f [x] = true) ∨
      (k = .rng2 ∧ ∃ p x y p2, iter = .Call (.Name "range" p) [x, y] [] p2 ∧ isGl c.sc "range" = true ∧ f [x, y] = true) := by
  cases k with
  | ex => cases h
  | rng1 =>
    left
    refine ⟨rfl, ?_⟩
    simp only [chkR] at h
    split at h
    · simp only [Bool.and_eq_true, decide_eq_true_eq] at h
      obtain ⟨⟨rfl, h2⟩, h3⟩ := h
      exact ⟨_, _, _, rfl, h2, h3⟩
    · cases h
  | rng2 =>
    right
    refine ⟨rfl, ?_⟩
    simp only [chkR] at h
    split at h
    · simp only [Bool.and_eq_true, decide_eq_true_eq] at h
      obtain ⟨⟨rfl, h2⟩, h3⟩ := h
      exact ⟨_, _, _, _, rfl, h2, h3⟩
    · cases h
mutual
def chkE (g : Mod) (c : Cc) (ex : Expr) (e : E) : Bool := okX ex && match e with
  | .var i => match ex with
    | .Name x _ => decide (c.N[i]? = some x) && isVis c.sc x && okN x
    | _ => false
  | .non => match ex with
    | .Constant .none _ _ => true
    | _ => false
  | .bl b => match ex with
    | .Constant (.bool b') _ _ => b == b'
    | _ => false
  | .int i => match ex with
    | .Constant (.int i') _ _ => i == i'
    | _ => false
  | .str x => match ex with
    | .Constant (.str x') _ _ => decide (x = x') && decide (x.length ≤ 100000)
    | _ => false
  | .glob x => match ex with
    | .Name y _ => decide (x = y) && isGl c.sc x && okN x
    | _ => false
  | .tup es => match ex with
    | .Tuple xs _ _ => chkEs g c xs es && decide (xs.length ≤ 100000)
    | _ => false
  | .lst es => match ex with
    | .List xs _ => chkEs g c xs es && decide (xs.length ≤ 100000)
    | _ => false
  | .bin o a b => match ex with
    | .BinOp x op y _ => decide (op = bop o) && chkE g c x a && chkE g c y b
    | _ => false
  | .neg a => match ex with
    | .UnaryOp .USub x _ => chkE g c x a
    | _ => false
  | .cmp o a b => match ex with
    | .Compare x [op] [y] _ => decide (op = cop o) && chkE g c x a && chkE g c y b
    | _ => false
  | .chain o1 o2 a b d => match ex with
    | .Compare x [op, op'] [y, z] _ => decide (op = cop o1) && decide (op' = cop o2) && chkE g c x a && chkE g c y b && chkE g c z d
    | _ => false
  | .and a b => match ex with
    | .BoolOp .And [x, y] _ => tOk x && tOk y && chkE g c x a && chkE g c y b
    | .BoolOp .And (x :: y :: z :: r) p => tOk x && chkE g c x a && chkE g c (.BoolOp .And (y :: z :: r) p) b
    | _ => false
  | .or a b => match ex with
    | .BoolOp .Or [x, y] _ => tOk x && tOk y && chkE g c x a && chkE g c y b
    | .BoolOp .Or (x :: y :: z :: r) p => tOk x && chkE g c x a && chkE g c (.BoolOp .Or (y :: z :: r) p) b
    | _ => false
  | .not a => match ex with
    | .UnaryOp .Not x _ => tOk x && chkE g c x a
    | _ => false
  | .ife d a b => match ex with
    | .IfExp z x y _ => chkE g c z d && tOk z && chkE g c x a && chkE g c y b
    | _ => false
  | .idx a i => match ex with
    | .Subscript x y _ => chkE g c x a && chkE g c y i
    | _ => false
  | .slice a lo hi => match ex with
    | .Subscript x (.Slice l u none _) _ => chkE g c x a && (match l with | none => lo.isNon | some l => !lo.isNon && chkE g c l lo) && (match u with | none => hi.isNon | some u => !hi.isNon && chkE g c u hi)
    | _ => false
  | .call f es => match ex with
    | .Call (.Name x _) xs [] _ => decide (x = f) && isGl c.sc x && okN x && (g.fns.lookup f).isSome && chkEs g c xs es
    | _ => false
  | .bi f es => match ex with
    | .Call (.Name x _) xs [] _ => decide (x = biS f) && isGl c.sc x && !xs.isEmpty && chkEs g c xs es
    | _ => false
  | .isi a t => match ex with
    | .Call (.Name x _) [y, .Name z _] [] _ => decide (x = "isinstance") && isGl c.sc x && decide (z = tyN t) && isGl c.sc z && chkE g c y a
    | _ => false
  | .meth m o es => match ex with
    | .Call (.Attribute y x ap) xs [] p => decide (x = meS m) && notSuper y && (ap.endLine == p.line) && decide (xs.length < 20) && chkE g c y o && chkEs g c xs es
    | _ => false
  | .comp elt t k es cs own => match ex with
    | .ListComp ex2 [gen] scope _ => decide (gen.is_async = 0) && okX gen.iter && chkI c k gen.iter (fun xs => chkEs g c xs es) && blkC c.N c.sc scope own && okX gen.target && chkT ⟨c.N, relS scope c.sc, fun x => scope.names.lookup x == some .cell⟩ gen.target t && (slotsT t).all (fun i => (own.map (·.2)).contains i) &&
        decide (gen.ifs.length = cs.length) && decide (cs.length ≤ 1) && gen.ifs.all tOk && chkEs g ⟨c.N, relS scope c.sc, fun x => scope.names.lookup x == some .cell⟩ gen.ifs cs && chkE g ⟨c.N, relS scope c.sc, fun x => scope.names.lookup x == some .cell⟩ ex2 elt
    | _ => false
  | .lrng k es => match ex with
    | .Call (.Name l _) [iter] [] _ => decide (l = "list") && isGl c.sc l && chkR c k iter (fun xs => chkEs g c xs es)
    | _ => false
def chkEs (g : Mod) (c : Cc) (exs : List Expr) (es : List E) : Bool := match es with
  | [] => match exs with
    | [] => true
    | _ => false
  | e :: es => match exs with
    | ex :: exs => chkE g c ex e && chkEs g c exs es
    | [] => false
end
end MP
namespace MP
open PySem PySem.Spec PyProof.Rows L2
def spM (K : Fra) (g : Mod) (k : Nat) (f : Str) : Sp := fun vs H Q _ => ∃ i φ h ms r, g.fns.lookup f = some i ∧ vs.length = i.np ∧ HR K φ h H ∧ RVs K φ H vs ms ∧ run g k f ms h = some r ∧ Post K φ H Q r
def bltNames : List Str := ["len", "int", "abs", "max", "min", "sum", "all", "any", "list", "tuple", "isinstance", "range", "bool", "str"]
structure XR (g : Mod) (k : Nat) (X : Cx) (c : Cc) : Prop where
  hN : X.N = c.N
  nd : X.N.Nodup
  sc : X.env.scope = c.sc
  fn : X.fn = c.fn
  calm : X.calm = true
  room : Room k X.A
  xe : X.xe = fun _ _ => False
  fns : ∀ f i, g.fns.lookup f = some i → ∃ a fd ps, X.mg f = some (.ref a) ∧ PySem.W.keepIn X.K (.ref a) = true ∧ Binds X.K fd ps [] ∧ ps.length = i.np ∧ FnOk X.prog X.w X.K X.mg X.base CX0 k a fd ps (spM X.K g k f)
  cns : ∀ x m, g.cns.lookup x = some m → ∃ u w, X.mg x = some u ∧ RelV w u ∧ ∀ H, RV X.K [] H w m
  blt : ∀ x ∈ bltNames, X.mg x = none
theorem XR.blk {g : Mod} {k : Nat} {X : Cx} {c : Cc} (r : XR g k X c) (s : Shared) (H : Hp) (scope : Scope) (C : Addr) (cl : List (Str × Addr)) (fp : List Addr) :
    XR g k (X.blk s H scope (compEnvC scope cl C X.env) fp) ⟨c.N, relS scope c.sc, fun x => scope.names.lookup x == some .cell⟩ where
  hN := r.hN
  nd := r.nd
  sc := by
    show relS scope X.env.scope = _
    rw [r.sc]
  fn := rfl
  calm := r.calm
  room := r.room
  xe := rfl
  fns := r.fns
  cns := r.cns
  blt := r.blt
def isBool : Expr → Bool
  | .BoolOp _ _ _ => true | _ => false
structure Sim (X : Cx) (ex : Expr) (ev : Env → MH → R) : Prop where
  pe : PE X ex (tEv X.K ev)
  pt : tOk ex = true → PT X ex (tTv X.K ev)
  pw : isBool ex = true → PW X ex (tTv X.K ev)
section
variable {X : Cx} {K : Fra} {φ φ' φ1 φ2 : List Addr} {H H' H1 H2 : Hp} {h h' h1 h2 : MH} {v : V} {m : MV} {env : Env} {σ : L2.St}
theorem goT {ev : Env → MH → R} {r : MV × MH} {c : Bool} {Q : Bool → Hp → Prop} (w : Ew K φ h env σ H) (e : ev env h = some r) (t : truth r.2 r.1 = some c) (k : ∀ φ1 H1, Stp φ H φ1 H1 → Ew K φ1 r.2 env σ H1 → Q c H1) : tTv K ev σ H Q :=
  ⟨φ, h, env, r, w, e, c, t, fun φ1 H1 s hr => k φ1 H1 s (w.step s hr)⟩
/-- from a value to a test -/
theorem Sim.of {ex : Expr} {ev : Env → MH → R} (h : PE X ex (tEv X.K ev)) (hp : plainT ex = true) : Sim X ex ev := by
  refine ⟨h, fun _ => ?_, fun hb => ?_⟩
  · refine (pt_truth h ?_).imp fun σ H Q hh => ?_
    · intro whole
      cases ex <;> first | rfl | cases hp
    · obtain ⟨φ, hh, env, r, w, e, c, t, k⟩ := hh
      exact go w e fun φ1 H1 v s w1 rv => ⟨c, tru_of w1.hr rv t, k φ1 H1 s w1.hr⟩
  · cases ex <;> first | (cases hb; done) | (cases hp; done)
theorem star_of {e : Expr} {es : List Expr} {env : PySem.Env} (h : okX e = true) : starEach (e :: es) env = (false, eval e env) :: starEach es env := by
  cases e <;> first | rfl | cases h
theorem plainIx_of {e : Expr} (h : okX e = true) : PlainIx e := by
  intro o i
  cases e <;> first | rfl | cases h
theorem behind_of {op : CmpOp} {e : Expr} (h : okX e = true) : behindInMarks op e = false := by
  cases e <;> first | rfl | cases h
theorem folded_of {e : Expr} {env : PySem.Env} (h : okX e = true) (x : Value) : foldedSetIterable e env x = pure x := by
  cases e <;> first | rfl | cases h
theorem base_of {e : Expr} {n : Str} {env : PySem.Env} {w : Sem Value} (h : notSuper e = true) : attributeBase e n env w = w := by
  cases e <;> first | rfl | cases h
theorem okE {g : Mod} {c : Cc} {ex : Expr} {e : E} (h : chkE g c ex e = true) : okX ex = true := by
  cases e <;> (simp only [chkE, Bool.and_eq_true] at h; exact h.1)
theorem okN_d {x : Str} (h : okN x = true) : (x == ("__debug__" : Str)) = false ∧ (x == ("__classdict__" : Str)) = false := by
  simp only [okN, Bool.and_eq_true, Bool.not_eq_true'] at h
  exact h
theorem plain_args {g : Mod} {c : Cc} {env : PySem.Env} {pos : Pos} : ∀ {xs : List Expr} {es : List E}, chkEs g c xs es = true → (backTo pos (starEach xs env)).any (·.1) = false
  | [], _, _ => rfl
  | x :: xs, [], h => by simp [chkEs] at h
  | x :: xs, e :: es, h => by
    simp only [chkEs, Bool.and_eq_true] at h
    rw [star_of (okE h.1)]
    have ih := plain_args (env := env) (pos := pos) h.2
    simpa [backTo] using ih
theorem all_plain {g : Mod} {c : Cc} {env : PySem.Env} {pos : Pos} : ∀ {xs : List Expr} {es : List E}, chkEs g c xs es = true → (backTo pos (starEach xs env)).all (fun x => !x.1) = true
  | [], _, _ => rfl
  | x :: xs, [], h => by simp [chkEs] at h
  | x :: xs, e :: es, h => by
    simp only [chkEs, Bool.and_eq_true] at h
    rw [star_of (okE h.1)]
    have ih := all_plain (env := env) (pos := pos) h.2
    simpa [backTo] using ih
theorem isVis_of {sc : Scope} {x : Str} (h : isVis sc x = true) : Vis sc x := by
  simp only [isVis, Bool.or_eq_true, decide_eq_true_eq] at h
  rcases h with (h | h) | h
  · exact .inl h
  · exact .inr (.inl h)
  · exact .inr (.inr h)
theorem XR.gl {g : Mod} {k : Nat} {c : Cc} (r : XR g k X c) {x : Str} (h : isGl c.sc x = true) : Gl X x := by
  show X.env.scope.names.lookup x = _
  rw [r.sc]
  exact of_decide_eq_true h
theorem XR.hu {g : Mod} {k : Nat} {c : Cc} (r : XR g k X c) : X.A.units + 64 < cLine := by
  have := r.room.un
  omega
theorem sim_tup {xs : List Expr} {k : Nat} {pos : Pos} {ev : Env → MH → Option (List MV × MH)} (h : PA X xs (tEs X.K ev)) (hl : ∀ env h r, ev env h = some r → r.1.length ≤ sizeLine) :
    PE X (.Tuple xs k pos) (tEv X.K fun env h => (ev env h).bind fun r => some (.tup r.1, r.2)) := by
  refine (pe_tup h).imp fun σ H Q hh => ?_
  obtain ⟨φ, hp, env, r, w, e, q⟩ := hh
  simp only [Option.bind_eq_some_iff] at e
  obtain ⟨rs, e1, e2⟩ := e
  cases e2
  refine goA w e1 fun φ1 H1 vs s w1 rv => ?_
  have hz := hl _ _ _ e1
  exact ⟨by rw [rv.len]; exact hz, (q.on s).tup w1.hr rv hz⟩
theorem sim_lst {xs : List Expr} {pos : Pos} {ev : Env → MH → Option (List MV × MH)} (h : PA X xs (tEs X.K ev)) (hl : ∀ env h r, ev env h = some r → r.1.length ≤ sizeLine) :
    PE X (.List xs pos) (tEv X.K fun env h => (ev env h).bind fun r => some (.ref r.2.length, r.2 ++ [.lst r.1])) := by
  refine (pe_lst h).imp fun σ H Q hh => ?_
  obtain ⟨φ, hp, env, r, w, e, q⟩ := hh
  simp only [Option.bind_eq_some_iff] at e
  obtain ⟨rs, e1, e2⟩ := e
  cases e2
  refine goA w e1 fun φ1 H1 vs s w1 rv => ?_
  have hz := hl _ _ _ e1
  exact ⟨by rw [rv.len]; exact hz, (q.on s).lst w1.hr rv hz⟩
theorem evEs_len {g : Mod} {cf : Str → List MV → MH → R} : ∀ {es : List E} {env : Env} {h : MH} {r : List MV × MH}, evEs g cf es env h = some r → r.1.length = es.length
  | [], env, h, r, e => by simp only [evEs] at e; cases e; rfl
  | x :: xs, env, h, r, e => by
    simp only [evEs, Option.bind_eq_some_iff, Option.map_eq_some_iff] at e
    obtain ⟨y, e1, q, e2, rfl⟩ := e
    exact congrArg (· + 1) (evEs_len e2)
theorem chkEs_len {g : Mod} {c : Cc} : ∀ {xs : List Expr} {es : List E}, chkEs g c xs es = true → xs.length = es.length
  | [], [], _ => rfl
  | [], _ :: _, h => by simp [chkEs] at h
  | _ :: _, [], h => by simp [chkEs] at h
  | x :: xs, e :: es, h => by
    simp only [chkEs, Bool.and_eq_true] at h
    exact congrArg (· + 1) (chkEs_len h.2)
theorem sim_op {a b : Expr} {pos : Pos} {o : BOp} {ea eb : Env → MH → R} (ha : PE X a (tEv X.K ea)) (hb : PE X b (tEv X.K eb)) :
    PE X (.BinOp a (bop o) b pos) (tEv X.K fun env h => (ea env h).bind fun x => (eb env x.2).bind fun y => binM o y.2 x.1 y.1) := by
  refine (pe_op (opB o) ha hb).imp fun σ H Q hh => ?_
  obtain ⟨φ, hp, env, r, w, e, q⟩ := hh
  simp only [Option.bind_eq_some_iff] at e
  obtain ⟨x, e1, y, e2, e3⟩ := e
  refine go w e1 fun φ1 H1 v1 s1 w1 r1 => go w1 e2 fun φ2 H2 v2 s2 w2 r2 => ?_
  exact ⟨φ2, y.2, x.1, y.1, r, w2.hr, RV.mono s2 w1.hr.dom _ _ r1, r2, e3, (q.on (s1.trans s2))⟩
theorem sim_cmp {g : Mod} {k : Nat} {c : Cc} (xr : XR g k X c) {a b : Expr} {pos : Pos} {o : COp} {ea eb : Env → MH → R} (ha : PE X a (tEv X.K ea)) (hb : PE X b (tEv X.K eb)) (hm : okX b = true) :
    Sim X (.Compare a [cop o] [b] pos) (fun env h => (ea env h).bind fun x => (eb env x.2).bind fun y => (cmpM o y.2 x.1 y.1).map fun c => (.bl c, y.2)) := by
  have core : ∀ {σ H Q r φ hp env}, Ew X.K φ hp env σ H → ((ea env hp).bind fun x => (eb env x.2).bind fun y => (cmpM o y.2 x.1 y.1).map fun c => (MV.bl c, y.2)) = some r →
      (∀ φ1 H1 c, Stp φ H φ1 H1 → HR X.K φ1 r.2 H1 → r.1 = .bl c → Q (V.bl c) H1) → tOp (rC X.K o) (tEv X.K ea) (tEv X.K eb) σ H Q := by
    intro σ H Q r φ hp env w e q
    simp only [Option.bind_eq_some_iff, Option.map_eq_some_iff] at e
    obtain ⟨x, e1, y, e2, c, e3, rfl⟩ := e
    refine go w e1 fun φ1 H1 v1 s1 w1 r1 => go w1 e2 fun φ2 H2 v2 s2 w2 r2 => ?_
    exact ⟨φ2, y.2, x.1, y.1, c, w2.hr, RV.mono s2 w1.hr.dom _ _ r1, r2, e3, q φ2 H2 c (s1.trans s2) w2.hr rfl⟩
  refine ⟨(pe_cmpR (opC xr.hu o) ha hb (behind_of hm)).imp fun σ H Q hh => ?_, fun _ => (pt_cmpR (opC xr.hu o) ha hb (behind_of hm)).imp fun σ H Q hh => ?_, fun z => nomatch z⟩
  · obtain ⟨φ, hp, env, r, w, e, q⟩ := hh
    exact core w e fun φ1 H1 c s hr er => q φ1 H1 _ s hr (by rw [er]; rfl)
  · obtain ⟨φ, hp, env, r, w, e, c, t, q⟩ := hh
    refine core w e fun φ1 H1 c' s hr er => ⟨c', rfl, ?_⟩
    rw [er] at t
    cases t
    exact q φ1 H1 s hr
theorem sim_chain {g : Mod} {k : Nat} {c : Cc} (xr : XR g k X c) {a b d : Expr} {pos : Pos} {o o' : COp} {ea eb ed : Env → MH → R} (ha : PE X a (tEv X.K ea)) (hb : PE X b (tEv X.K eb)) (hd : PE X d (tEv X.K ed)) (hm : okX d = true) :
    Sim X (.Compare a [cop o, cop o'] [b, d] pos) (fun env h => (ea env h).bind fun x => (eb env x.2).bind fun y => (cmpM o y.2 x.1 y.1).bind fun c1 =>
      if c1 then (ed env y.2).bind fun z => (cmpM o' z.2 y.1 z.1).map fun c2 => (.bl c2, z.2) else some (.bl false, y.2)) := by
  have hl : lastMarks [cop o, cop o'] [b, d] = false := behind_of hm
  have core : ∀ {σ H Q r φ hp env}, Ew X.K φ hp env σ H → ((ea env hp).bind fun x => (eb env x.2).bind fun y => (cmpM o y.2 x.1 y.1).bind fun c1 =>
      if c1 then (ed env y.2).bind fun z => (cmpM o' z.2 y.1 z.1).map fun c2 => (MV.bl c2, z.2) else some (.bl false, y.2)) = some r →
      (∀ φ1 H1 c, Stp φ H φ1 H1 → HR X.K φ1 r.2 H1 → r.1 = .bl c → Q (V.bl c) H1) → tChain (rC X.K o) (rC X.K o') (tEv X.K ea) (tEv X.K eb) (tEv X.K ed) σ H Q := by
    intro σ H Q r φ hp env w e q
    simp only [Option.bind_eq_some_iff] at e
    obtain ⟨x, e1, y, e2, c, e3, e4⟩ := e
    refine go w e1 fun φ1 H1 v1 s1 w1 r1 => go w1 e2 fun φ2 H2 v2 s2 w2 r2 => ?_
    refine ⟨φ2, y.2, x.1, y.1, c, w2.hr, RV.mono s2 w1.hr.dom _ _ r1, r2, e3, c, rfl, ?_⟩
    cases c with
    | false =>
      rw [if_neg Bool.false_ne_true] at e4
      cases e4
      rw [if_neg Bool.false_ne_true]
      exact q φ2 H2 false (s1.trans s2) w2.hr rfl
    | true =>
      rw [if_pos rfl] at e4
      simp only [Option.bind_eq_some_iff, Option.map_eq_some_iff] at e4
      obtain ⟨z, e5, c2, e6, rfl⟩ := e4
      rw [if_pos rfl]
      refine go w2 e5 fun φ3 H3 v3 s3 w3 r3 => ?_
      exact ⟨φ3, z.2, y.1, z.1, c2, w3.hr, RV.mono s3 w2.hr.dom _ _ r2, r3, e6, q φ3 H3 c2 ((s1.trans s2).trans s3) w3.hr rfl⟩
  refine ⟨(pe_chain (opC xr.hu o) (opC xr.hu o') ha hb hd hl).imp fun σ H Q hh => ?_, fun _ => (pt_chain (opC xr.hu o) (opC xr.hu o') ha hb hd hl).imp fun σ H Q hh => ?_, fun z => nomatch z⟩
  · obtain ⟨φ, hp, env, r, w, e, q⟩ := hh
    exact core w e fun φ1 H1 c s hr er => q φ1 H1 _ s hr (by rw [er]; rfl)
  · obtain ⟨φ, hp, env, r, w, e, c, t, q⟩ := hh
    refine core w e fun φ1 H1 c' s hr er => ⟨c', rfl, ?_⟩
    rw [er] at t
    cases t
    exact q φ1 H1 s hr
noncomputable def andF (ea eb : Env → MH → R) : Env → MH → R := fun env h => (ea env h).bind fun x => (truth x.2 x.1).bind fun c => if c then eb env x.2 else some x
noncomputable def orF (ea eb : Env → MH → R) : Env → MH → R := fun env h => (ea env h).bind fun x => (truth x.2 x.1).bind fun c => if c then some x else eb env x.2
theorem and_pe {a b : Expr} {r : List Expr} {pos : Pos} {ea eb : Env → MH → R} (ha : PE X a (tEv X.K ea)) (hb : PE X (.BoolOp .And (b :: r) pos) (tEv X.K eb)) : PE X (.BoolOp .And (a :: b :: r) pos) (tEv X.K (andF ea eb)) := by
  refine (pe_andT ha hb).imp fun σ H Q hh => ?_
  obtain ⟨φ, hp, env, r, w, e, q⟩ := hh
  simp only [andF, Option.bind_eq_some_iff] at e
  obtain ⟨x, e1, c, e2, e3⟩ := e
  refine go w e1 fun φ1 H1 v1 s1 w1 r1 => ⟨c, tru_of w1.hr r1 e2, ?_⟩
  cases c with
  | true =>
    rw [if_pos rfl] at e3
    rw [if_pos rfl]
    exact go w1 e3 fun φ2 H2 v2 s2 w2 r2 => q φ2 H2 v2 (s1.trans s2) w2.hr r2
  | false =>
    rw [if_neg Bool.false_ne_true] at e3
    cases e3
    rw [if_neg Bool.false_ne_true]
    exact q φ1 H1 v1 s1 w1.hr r1
theorem or_pe {a b : Expr} {r : List Expr} {pos : Pos} {ea eb : Env → MH → R} (ha : PE X a (tEv X.K ea)) (hb : PE X (.BoolOp .Or (b :: r) pos) (tEv X.K eb)) : PE X (.BoolOp .Or (a :: b :: r) pos) (tEv X.K (orF ea eb)) := by
  refine (pe_orT ha hb).imp fun σ H Q hh => ?_
  obtain ⟨φ, hp, env, r, w, e, q⟩ := hh
  simp only [orF, Option.bind_eq_some_iff] at e
  obtain ⟨x, e1, c, e2, e3⟩ := e
  refine go w e1 fun φ1 H1 v1 s1 w1 r1 => ⟨c, tru_of w1.hr r1 e2, ?_⟩
  cases c with
  | false =>
    rw [if_neg Bool.false_ne_true] at e3
    rw [if_neg Bool.false_ne_true]
    exact go w1 e3 fun φ2 H2 v2 s2 w2 r2 => q φ2 H2 v2 (s1.trans s2) w2.hr r2
  | true =>
    rw [if_pos rfl] at e3
    cases e3
    rw [if_pos rfl]
    exact q φ1 H1 v1 s1 w1.hr r1
theorem and_pw {a b : Expr} {r : List Expr} {pos : Pos} {ea eb : Env → MH → R} (ha : PT X a (tTv X.K ea)) (hb : PW X (.BoolOp .And (b :: r) pos) (tTv X.K eb)) : PW X (.BoolOp .And (a :: b :: r) pos) (tTv X.K (andF ea eb)) := by
  refine (pw_and ha hb).imp fun σ H Q hh => ?_
  obtain ⟨φ, hp, env, r, w, e, c, t, q⟩ := hh
  simp only [andF, Option.bind_eq_some_iff] at e
  obtain ⟨x, e1, c1, e2, e3⟩ := e
  refine goT w e1 e2 fun φ1 H1 s1 w1 => ?_
  cases c1 with
  | true =>
    rw [if_pos rfl] at e3
    rw [if_pos rfl]
    exact goT w1 e3 t fun φ2 H2 s2 w2 => q φ2 H2 (s1.trans s2) w2.hr
  | false =>
    rw [if_neg Bool.false_ne_true] at e3
    cases e3
    rw [e2] at t
    cases t
    rw [if_neg Bool.false_ne_true]
    exact q φ1 H1 s1 w1.hr
theorem or_pw {a b : Expr} {r : List Expr} {pos : Pos} {ea eb : Env → MH → R} (ha : PT X a (tTv X.K ea)) (hb : PW X (.BoolOp .Or (b :: r) pos) (tTv X.K eb)) : PW X (.BoolOp .Or (a :: b :: r) pos) (tTv X.K (orF ea eb)) := by
  refine (pw_or ha hb).imp fun σ H Q hh => ?_
  obtain ⟨φ, hp, env, r, w, e, c, t, q⟩ := hh
  simp only [orF, Option.bind_eq_some_iff] at e
  obtain ⟨x, e1, c1, e2, e3⟩ := e
  refine goT w e1 e2 fun φ1 H1 s1 w1 => ?_
  cases c1 with
  | false =>
    rw [if_neg Bool.false_ne_true] at e3
    rw [if_neg Bool.false_ne_true]
    exact goT w1 e3 t fun φ2 H2 s2 w2 => q φ2 H2 (s1.trans s2) w2.hr
  | true =>
    rw [if_pos rfl] at e3
    cases e3
    rw [e2] at t
    cases t
    rw [if_pos rfl]
    exact q φ1 H1 s1 w1.hr
end
end MP
namespace MP
open PySem PySem.Spec PyProof.Rows L2
section
variable {X : Cx} {K : Fra} {φ φ' φ1 φ2 : List Addr} {H H' H1 H2 : Hp} {h h' h1 h2 : MH} {v : V} {m : MV} {env : Env} {σ : L2.St}
theorem sim_not {a : Expr} {pos : Pos} {ea : Env → MH → R} (ha : PE X a (tEv X.K ea)) (hT : tOk a = true → PT X a (tTv X.K ea)) (ht : tOk a = true) :
    Sim X (.UnaryOp .Not a pos) (fun env h => (ea env h).bind fun x => (truth x.2 x.1).map fun c => (.bl (!c), x.2)) := by
  refine ⟨(pe_notT ha).imp fun σ H Q hh => ?_, fun _ => (pt_not (hT ht)).imp fun σ H Q hh => ?_, fun z => nomatch z⟩
  · obtain ⟨φ, hp, env, r, w, e, q⟩ := hh
    simp only [Option.bind_eq_some_iff, Option.map_eq_some_iff] at e
    obtain ⟨x, e1, c, e2, rfl⟩ := e
    exact go w e1 fun φ1 H1 v1 s1 w1 r1 => ⟨c, tru_of w1.hr r1 e2, q φ1 H1 _ s1 w1.hr rfl⟩
  · obtain ⟨φ, hp, env, r, w, e, c, t, q⟩ := hh
    simp only [Option.bind_eq_some_iff, Option.map_eq_some_iff] at e
    obtain ⟨x, e1, c', e2, rfl⟩ := e
    cases t
    exact goT w e1 e2 fun φ1 H1 s1 w1 => q φ1 H1 s1 w1.hr
theorem sim_neg {a : Expr} {pos : Pos} {ea : Env → MH → R} (ha : PE X a (tEv X.K ea)) :
    Sim X (.UnaryOp .USub a pos) (fun env h => (ea env h).bind negM) := by
  have pe : PE X (.UnaryOp .USub a pos) (tEv X.K (fun env h => (ea env h).bind negM)) := by
    refine (pe_un un_neg ha).imp fun σ H Q hh => ?_
    obtain ⟨φ, hp, env, r, w, e, q⟩ := hh
    simp only [Option.bind_eq_some_iff] at e
    obtain ⟨x, e1, e2⟩ := e
    unfold negM at e2
    split at e2
    · rename_i i hi
      cases e2
      refine go w e1 fun φ1 H1 v1 s1 w1 r1 => ?_
      rw [hi] at r1
      cases r1
      exact ⟨i, rfl, q φ1 H1 _ s1 w1.hr rfl⟩
    · cases e2
  refine ⟨pe, fun _ => (pt_truth pe (fun _ => rfl)).imp fun σ H Q hh => ?_, fun z => nomatch z⟩
  obtain ⟨φ, hh, env, r, w, e, c, t, k⟩ := hh
  exact go w e fun φ1 H1 v s w1 rv => ⟨c, tru_of w1.hr rv t, k φ1 H1 s w1.hr⟩
theorem sim_ife {d a b : Expr} {pos : Pos} {ed ea eb : Env → MH → R} (hd : PT X d (tTv X.K ed)) (ha : PE X a (tEv X.K ea)) (hb : PE X b (tEv X.K eb)) :
    Sim X (.IfExp d a b pos) (fun env h => (ed env h).bind fun x => (truth x.2 x.1).bind fun c => if c then ea env x.2 else eb env x.2) := by
  refine ⟨(pe_ifExp hd ha hb).imp fun σ H Q hh => ?_, (fun z => nomatch z), (fun z => nomatch z)⟩
  obtain ⟨φ, hp, env, r, w, e, q⟩ := hh
  simp only [Option.bind_eq_some_iff] at e
  obtain ⟨x, e1, c, e2, e3⟩ := e
  refine goT w e1 e2 fun φ1 H1 s1 w1 => ?_
  cases c with
  | true =>
    rw [if_pos rfl] at e3 ⊢
    exact go w1 e3 fun φ2 H2 v2 s2 w2 r2 => q φ2 H2 v2 (s1.trans s2) w2.hr r2
  | false =>
    rw [if_neg Bool.false_ne_true] at e3 ⊢
    exact go w1 e3 fun φ2 H2 v2 s2 w2 r2 => q φ2 H2 v2 (s1.trans s2) w2.hr r2
theorem sim_idx {a b : Expr} {pos : Pos} {ea eb : Env → MH → R} (ha : PE X a (tEv X.K ea)) (hb : PE X b (tEv X.K eb)) (hok : okX b = true) :
    PE X (.Subscript a b pos) (tEv X.K fun env h => (ea env h).bind fun x => (eb env x.2).bind fun y => (atM y.2 x.1 y.1).map fun v => (v, y.2)) := by
  refine (pe_ix ixM ha hb (plainIx_of hok)).imp fun σ H Q hh => ?_
  obtain ⟨φ, hp, env, r, w, e, q⟩ := hh
  simp only [Option.bind_eq_some_iff, Option.map_eq_some_iff] at e
  obtain ⟨x, e1, y, e2, z, e3, rfl⟩ := e
  refine go w e1 fun φ1 H1 v1 s1 w1 r1 => go w1 e2 fun φ2 H2 v2 s2 w2 r2 => ?_
  exact ⟨φ2, y.2, x.1, y.1, z, w2.hr, RV.mono s2 w1.hr.dom _ _ r1, r2, e3, q.on (s1.trans s2)⟩
/-- a slice's part -/
def tPo (K : Fra) (ab : Bool) (ev : Env → MH → R) : TO := fun σ H Q => ∃ φ h env r i, Ew K φ h env σ H ∧ ev env h = some r ∧ partM ab r.1 = some i ∧ ∀ φ' H', Stp φ H φ' H' → Ew K φ' r.2 env σ H' → Q i H'
theorem _root_.L2.PO.imp {X : Cx} {o : Option Expr} {t t' : TO} (h : PO X o t) (k : ∀ σ H Q, t' σ H Q → t σ H Q) : PO X o t' := ⟨fun pins s σ H Q I q => h.run pins s σ H Q I (k _ _ _ q)⟩
theorem po_of {g : Mod} {cf : Str → List MV → MH → R} {o : Option Expr} {e : E} (hs : ∀ l, o = some l → e.isNon = false ∧ PE X l (tEv X.K (evE g cf e))) (hn : o = none → e.isNon = true) : PO X o (tPo X.K e.isNon (evE g cf e)) := by
  cases o with
  | none =>
    have hn := hn rfl
    rw [hn]
    refine po_none.imp fun σ H Q hh => ?_
    obtain ⟨φ, h, env, r, i, w, e1, e2, q⟩ := hh
    cases e2
    cases e <;> first | (cases hn; done) | skip
    simp only [evE] at e1
    cases e1
    exact q φ H .refl w
  | some l =>
    obtain ⟨hn, hp⟩ := hs l rfl
    rw [hn]
    refine (po_some hp).imp fun σ H Q hh => ?_
    obtain ⟨φ, h, env, r, i, w, e1, e2, q⟩ := hh
    refine go w e1 fun φ1 H1 v1 s1 w1 r1 => ?_
    unfold partM at e2
    simp only at e2
    split at e2
    · rename_i j hj
      cases e2
      rw [hj] at r1
      cases r1
      exact ⟨j, rfl, q φ1 H1 s1 w1⟩
    · cases e2
theorem sim_slice {g : Mod} {cf : Str → List MV → MH → R} {a : Expr} {l u : Option Expr} {p2 pos : Pos} {ea : Env → MH → R} {lo hi : E} (ha : PE X a (tEv X.K ea)) (hl : PO X l (tPo X.K lo.isNon (evE g cf lo))) (hu : PO X u (tPo X.K hi.isNon (evE g cf hi))) :
    PE X (.Subscript a (.Slice l u none p2) pos) (tEv X.K fun env h => (ea env h).bind fun x => (evE g cf lo env x.2).bind fun l => (evE g cf hi env l.2).bind fun u => (partM lo.isNon l.1).bind fun i => (partM hi.isNon u.1).bind fun j => sliceM u.2 x.1 i j) := by
  refine (pe_slice slM ha hl hu).imp fun σ H Q hh => ?_
  obtain ⟨φ, hp, env, r, w, e, q⟩ := hh
  simp only [Option.bind_eq_some_iff] at e
  obtain ⟨x, e1, y, e2, z, e3, i, e4, j, e5, e6⟩ := e
  refine go w e1 fun φ1 H1 v1 s1 w1 r1 => ⟨φ1, x.2, env, y, i, w1, e2, e4, fun φ2 H2 s2 w2 => ⟨φ2, y.2, env, z, j, w2, e3, e5, fun φ3 H3 s3 w3 => ?_⟩⟩
  exact ⟨φ3, z.2, x.1, r, w3.hr, RV.mono (s2.trans s3) w1.hr.dom _ _ r1, e6, q.on ((s1.trans s2).trans s3)⟩
theorem sim_call {g : Mod} {k : Nat} {c : Cc} (xr : XR g k X c) {x : Str} {xs : List Expr} {es : List E} {p pos : Pos} (hg : isGl c.sc x = true) (hn : okN x = true) (hf : (g.fns.lookup x).isSome = true) (hc : chkEs g c xs es = true)
    (ha : PA X xs (tEs X.K (evEs g (run g k) es))) : PE X (.Call (.Name x p) xs [] pos) (tEv X.K fun env h => (evEs g (run g k) es env h).bind fun r => run g k x r.1 r.2) := by
  obtain ⟨i, hi⟩ := Option.isSome_iff_exists.mp hf
  obtain ⟨a, fd, ps, e1, e2, e3, e4, F⟩ := xr.fns x i hi
  have fin : ∀ σ H Q, tEv X.K (fun env h => (evEs g (run g k) es env h).bind fun r => run g k x r.1 r.2) σ H Q → tCall (spM X.K g k x) [] E0 (tEs X.K (evEs g (run g k) es)) σ H Q := by
    intro σ H Q hh
    obtain ⟨φ, hp, env, r, w, e, q⟩ := hh
    simp only [Option.bind_eq_some_iff] at e
    obtain ⟨rs, f1, f2⟩ := e
    refine goA w f1 fun φ1 H1 vs s w1 rv => ?_
    rw [List.append_nil]
    refine ⟨i, φ1, rs.2, rs.1, r, hi, ?_, w1.hr, rv, f2, q.on s⟩
    cases k with
    | zero => cases f2
    | succ k =>
      simp only [run, hi] at f2
      split at f2
      · rename_i hl
        rw [rv.len]; exact hl
      · cases f2
  cases xs with
  | nil =>
    cases es with
    | cons _ _ => simp [chkEs] at hc
    | nil =>
      refine (pe_call0 (E := E0) F xr.room (xr.gl hg) e1 e2 e3 .nil pass0 (okN_d hn).1).imp fun σ H Q hh => ?_
      obtain ⟨φ, hp, env, r, w, e, q⟩ := hh
      simp only [evEs, Option.bind_some] at e
      refine ⟨i, φ, hp, [], r, hi, ?_, w.hr, rfl, e, q⟩
      cases k with
      | zero => cases e
      | succ k =>
        simp only [run, hi] at e
        split at e
        · rename_i hl
          exact hl
        · cases e
  | cons y ys =>
    cases es with
    | nil => simp [chkEs] at hc
    | cons b bs =>
      have hc' := hc
      simp only [chkEs, Bool.and_eq_true] at hc'
      exact (pe_call (E := E0) F xr.room (xr.gl hg) e1 e2 e3 .nil pass0 ha (okN_d hn).1 (star_of (okE hc'.1)) (plain_args hc'.2)).imp fin
theorem biR (hc : X.calm = true) (f : Bi) : ∃ b : Bool, (b = true → ∃ id, CallR X (.builtin id) (rBi X.K f) ∧ bootBuiltins (biS f) = some (.builtin id)) ∧ (b = false → ∃ T, CallR X (.type T) (rBi X.K f) ∧ bootBuiltins (biS f) = some (.type T)) := by
  cases f with
  | len => exact ⟨true, fun _ => ⟨_, cLen, by decide +kernel⟩, fun z => nomatch z⟩
  | abs => exact ⟨true, fun _ => ⟨_, cAbs, by decide +kernel⟩, fun z => nomatch z⟩
  | max => exact ⟨true, fun _ => ⟨_, cMax hc, by decide +kernel⟩, fun z => nomatch z⟩
  | min => exact ⟨true, fun _ => ⟨_, cMin hc, by decide +kernel⟩, fun z => nomatch z⟩
  | sum => exact ⟨true, fun _ => ⟨_, cSum hc, by decide +kernel⟩, fun z => nomatch z⟩
  | all => exact ⟨true, fun _ => ⟨_, cAll hc, by decide +kernel⟩, fun z => nomatch z⟩
  | any => exact ⟨true, fun _ => ⟨_, cAny hc, by decide +kernel⟩, fun z => nomatch z⟩
  | int => exact ⟨false, (fun z => nomatch z), fun _ => ⟨_, cInt, by decide +kernel⟩⟩
  | list => exact ⟨false, (fun z => nomatch z), fun _ => ⟨_, cList, by decide +kernel⟩⟩
  | tuple => exact ⟨false, (fun z => nomatch z), fun _ => ⟨_, cTuple, by decide +kernel⟩⟩
theorem biS_n (f : Bi) : biS f ∈ bltNames ∧ biS f ≠ "__name__" ∧ (biS f == ("__debug__" : Str)) = false := by cases f <;> decide +kernel
theorem sim_bi {g : Mod} {k : Nat} {c : Cc} (xr : XR g k X c) {f : Bi} {y : Expr} {ys : List Expr} {es : List E} {p pos : Pos} (hg : isGl c.sc (biS f) = true) (hc : chkEs g c (y :: ys) es = true)
    (ha : PA X (y :: ys) (tEs X.K (evEs g (run g k) es))) : PE X (.Call (.Name (biS f) p) (y :: ys) [] pos) (tEv X.K fun env h => (evEs g (run g k) es env h).bind fun r => biM f r.2 r.1) := by
  obtain ⟨n1, n2, n3⟩ := biS_n f
  have hm := xr.blt _ n1
  have fin : ∀ σ H Q, tEv X.K (fun env h => (evEs g (run g k) es env h).bind fun r => biM f r.2 r.1) σ H Q → tCB (rBi X.K f) (tEs X.K (evEs g (run g k) es)) σ H Q := by
    intro σ H Q hh
    obtain ⟨φ, hp, env, r, w, e, q⟩ := hh
    simp only [Option.bind_eq_some_iff] at e
    obtain ⟨rs, f1, f2⟩ := e
    exact goA w f1 fun φ1 H1 vs s w1 rv => ⟨φ1, rs.2, rs.1, r, w1.hr, rv, f2, q.on s⟩
  cases es with
  | nil => simp [chkEs] at hc
  | cons b bs =>
    simp only [chkEs, Bool.and_eq_true] at hc
    obtain ⟨bb, h1, h2⟩ := biR (X := X) xr.calm f
    cases bb with
    | true =>
      obtain ⟨id, q1, q2⟩ := h1 rfl
      exact (pe_callB q1 (xr.gl hg) hm q2 ha n2 n3 (star_of (okE hc.1)) (plain_args hc.2)).imp fin
    | false =>
      obtain ⟨id, q1, q2⟩ := h2 rfl
      exact (pe_callTy q1 (xr.gl hg) hm q2 ha n2 n3 (star_of (okE hc.1)) (plain_args hc.2)).imp fin
theorem tyN_n (t : TyN) : tyN t ∈ bltNames ∧ tyN t ≠ "__name__" ∧ (tyN t == ("__debug__" : Str)) = false ∧ bootBuiltins (tyN t) = some (.type (tyS t)) := by cases t <;> decide +kernel
theorem sim_isi {g : Mod} {k : Nat} {c : Cc} (xr : XR g k X c) {y : Expr} {t : TyN} {ea : Env → MH → R} {p p2 pos : Pos} (hg : isGl c.sc "isinstance" = true) (hg2 : isGl c.sc (tyN t) = true) (hok : okX y = true) (ha : PE X y (tEv X.K ea)) :
    PE X (.Call (.Name "isinstance" p) [y, .Name (tyN t) p2] [] pos) (tEv X.K fun env h => (ea env h).bind fun x => (isiM x.2 x.1 t).map fun c => (.bl c, x.2)) := by
  obtain ⟨n1, n2, n3, n4⟩ := tyN_n t
  have hm2 := xr.blt _ n1
  have hm := xr.blt "isinstance" (by decide +kernel)
  have pT : PE X (.Name (tyN t) p2) (tC (.ty (tyS t))) := pe_bltn (xr.gl hg2) hm2 n4 rfl n2 n3
  refine (pe_callB (cIsi t) (xr.gl hg) hm (by decide +kernel) (pa_cons ha (pa_cons pT pa_nil rfl) (star_of hok)) (by decide +kernel) (by decide +kernel) (star_of hok) rfl).imp fun σ H Q hh => ?_
  obtain ⟨φ, hp, env, r, w, e, q⟩ := hh
  simp only [Option.bind_eq_some_iff, Option.map_eq_some_iff] at e
  obtain ⟨x, e1, b, e2, rfl⟩ := e
  exact go w e1 fun φ1 H1 v1 s1 w1 r1 => ⟨φ1, x.2, x.1, v1, b, w1.hr, rfl, r1, e2, q φ1 H1 _ s1 w1.hr rfl⟩
theorem sim_meth {g : Mod} {k : Nat} {c : Cc} (xr : XR g k X c) {m : Me} {o : Expr} {xs : List Expr} {es : List E} {eo : Env → MH → R} {ap pos : Pos} (hs : notSuper o = true) (hline : (ap.endLine == pos.line) = true) (hlen : xs.length < 20) (ho : PE X o (tEv X.K eo)) (hc : chkEs g c xs es = true)
    (ha : PA X xs (tEs X.K (evEs g (run g k) es))) : PE X (.Call (.Attribute o (meS m) ap) xs [] pos) (tEv X.K fun env h => (eo env h).bind fun x => (evEs g (run g k) es env x.2).bind fun r => methM m r.2 x.1 r.1) := by
  have fin : ∀ σ H Q, tEv X.K (fun env h => (eo env h).bind fun x => (evEs g (run g k) es env x.2).bind fun r => methM m r.2 x.1 r.1) σ H Q → tBM X.K "list" (rMe X.K m) (tEv X.K eo) (tEs X.K (evEs g (run g k) es)) σ H Q := by
    intro σ H Q hh
    obtain ⟨φ, hp, env, r, w, e, q⟩ := hh
    simp only [Option.bind_eq_some_iff] at e
    obtain ⟨x, e1, rs, f1, f2⟩ := e
    refine go w e1 fun φ1 H1 v1 s1 w1 r1 => ⟨?_, goA w1 f1 fun φ2 H2 vs s w2 rv => ⟨φ2, rs.2, x.1, rs.1, r, w2.hr, RV.mono s w1.hr.dom _ _ r1, rv, f2, q.on (s1.trans s)⟩⟩
    unfold methM at f2
    split at f2
    · rename_i n hn
      rw [hn] at r1
      obtain ⟨a, ea, rfl⟩ := r1
      obtain ⟨vs, hv⟩ := w1.hr.dom a (List.mem_of_getElem? ea)
      exact .inl ⟨rfl, vs, .of hv⟩
    · cases f2
  cases xs with
  | nil =>
    cases es with
    | cons _ _ => simp [chkEs] at hc
    | nil =>
      cases m with
      | append =>
        refine PE.imp (t := fun _ _ _ => False) ⟨fun _ _ _ _ _ _ z => z.elim⟩ fun σ H Q hh => ?_
        obtain ⟨φ, hp, env, r, w, e, q⟩ := hh
        simp only [Option.bind_eq_some_iff, evEs] at e
        obtain ⟨x, e1, rs, f1, f2⟩ := e
        cases f1
        unfold methM at f2
        split at f2 <;> cases f2
      | pop =>
        refine (pe_bm0 PySem.F.plainAttrs_list PySem.F.slot_list_pop PySem.F.type_list_pop mPop ho (base_of hs) hline).imp fun σ H Q hh => ?_
        obtain ⟨φ, hp, env, r, w, e, q⟩ := hh
        have hh := fin σ H (fun v H' => Q v H') ⟨φ, hp, env, r, w, e, q⟩
        simp only [Option.bind_eq_some_iff, evEs] at e
        obtain ⟨x, e1, rs, f1, f2⟩ := e
        cases f1
        refine go w e1 fun φ1 H1 v1 s1 w1 r1 => ⟨?_, ⟨φ1, x.2, x.1, [], r, w1.hr, r1, rfl, f2, q.on s1⟩⟩
        unfold methM at f2
        split at f2
        · rename_i n hn
          rw [hn] at r1
          obtain ⟨a, ea, rfl⟩ := r1
          obtain ⟨vs, hv⟩ := w1.hr.dom a (List.mem_of_getElem? ea)
          exact .inl ⟨rfl, vs, .of hv⟩
        · cases f2
  | cons y ys =>
    cases es with
    | nil => simp [chkEs] at hc
    | cons b bs =>
      have hc' := hc
      simp only [chkEs, Bool.and_eq_true] at hc'
      have hx : ((((backTo pos (starEach (y :: ys) X.env)).all fun x => !x.1) && (backToKw pos (keywordEach [] X.env)).all fun x => x.1.isSome) && decide (((y :: ys).length + ([] : List Keyword).length + if ([] : List Keyword).isEmpty = true then 0 else 1) < 30)) = true := by
        rw [all_plain hc]
        simp only [Bool.true_and, Bool.and_eq_true, decide_eq_true_eq]
        refine ⟨rfl, ?_⟩
        simp only [List.length_nil, List.isEmpty_nil, if_true]
        omega
      cases m with
      | append => exact (pe_bm PySem.F.plainAttrs_list PySem.F.slot_list_append PySem.F.type_list_append mAppend ho ha (base_of hs) hx hline (star_of (okE hc'.1)) (plain_args hc'.2)).imp fin
      | pop => exact (pe_bm PySem.F.plainAttrs_list PySem.F.slot_list_pop PySem.F.type_list_pop mPop ho ha (base_of hs) hx hline (star_of (okE hc'.1)) (plain_args hc'.2)).imp fin
/-- list(range(..)) -/
theorem sim_lr1 {g : Mod} {k : Nat} {c : Cc} (xr : XR g k X c) {a : Expr} {es : List E} {p p2 pos pos2 : Pos} (hg : isGl c.sc "list" = true) (hg2 : isGl c.sc "range" = true) (hc : chkEs g c [a] es = true) (ha : ∀ e, es = [e] → PE X a (tEv X.K (evE g (run g k) e))) :
    PE X (.Call (.Name "list" p) [.Call (.Name "range" p2) [a] [] pos2] [] pos) (tEv X.K fun env h => (evEs g (run g k) es env h).bind fun r => (itsM .rng1 r.2 r.1).map fun st => (.ref r.2.length, r.2 ++ [.lst st.items])) := by
  cases es with
  | nil => simp [chkEs] at hc
  | cons e es =>
    simp only [chkEs, Bool.and_eq_true] at hc
    cases es with
    | cons _ _ => simp [chkEs] at hc
    | nil =>
      have hok := okE hc.1
      refine (pe_listRg xr.calm (xr.gl hg) (xr.blt "list" (by decide +kernel)) (prg_1 (xr.gl hg2) (xr.blt "range" (by decide +kernel)) (ha e rfl) (star_of hok)) rfl).imp fun σ H Q hh => ?_
      obtain ⟨φ, hp, env, r, w, e1, q⟩ := hh
      simp only [evEs, Option.bind_eq_some_iff, Option.map_eq_some_iff, Option.map_some] at e1
      obtain ⟨x, ⟨y, f1, f2⟩, st, f3, rfl⟩ := e1
      obtain ⟨_, rfl, rfl⟩ := f2
      refine go w f1 fun φ1 H1 v1 s1 w1 r1 => ?_
      unfold itsM at f3
      simp only at f3
      split at f3
      · rename_i n hn
        split at f3
        · rename_i hz
          cases f3
          have hn' : y.1 = .int n := by
            injection hn
          rw [hn'] at r1
          cases r1
          have hz1 : n ≤ 16777216 := hz.1
          refine ⟨n, rfl, ⟨by decide, by decide, hz.2, by omega, by omega⟩, ?_⟩
          refine (q.on s1).lst w1.hr ?_ ?_
          · unfold rgV
            refine RVs.of (by simp) fun i x v h1 h2 => ?_
            rw [List.getElem?_map] at h1 h2
            simp only [Option.map_eq_some_iff] at h1 h2
            obtain ⟨a, h1, rfl⟩ := h1
            obtain ⟨b, h2, rfl⟩ := h2
            rw [show (n - 0).toNat = n.toNat by omega, h1] at h2
            cases h2
            show V.int (0 + _) = V.int _
            rw [Int.zero_add]
          · rw [List.length_map, List.length_range]
            show _ ≤ 16777216
            omega
        · cases f3
      · cases f3
end
end MP
namespace MP
open PySem PySem.Spec PyProof.Rows L2
section
variable {X : Cx} {K : Fra} {φ φ' φ1 φ2 : List Addr} {H H' H1 H2 : Hp} {h h' h1 h2 : MH} {v : V} {m : MV} {env : Env} {σ : L2.St}
theorem aE_of {e : Expr} {es : List Expr} {env : PySem.Env} (h : okX e = true) : assignEach (e :: es) env = (false, assign e env) :: assignEach es env := by
  cases e <;> first | rfl | cases h
theorem aE_len {c : Cc} {env : PySem.Env} : ∀ {xs : List Expr} {ts : List Tg}, chkTs c xs ts = true → (assignEach xs env).length = ts.length ∧ (assignEach xs env).findIdx? (·.1) = none
  | [], [], _ => ⟨rfl, rfl⟩
  | [], _ :: _, h => by simp [chkTs] at h
  | _ :: _, [], h => by simp [chkTs] at h
  | x :: xs, t :: ts, h => by
    simp only [chkTs, Bool.and_eq_true] at h
    obtain ⟨e1, e2⟩ := aE_len (env := env) h.2
    rw [aE_of h.1.1]
    refine ⟨congrArg (· + 1) e1, ?_⟩
    rw [List.findIdx?_cons]
    simp [e2]
theorem But.refl (ns : List Nat) (σ : L2.St) : But ns σ σ := ⟨rfl, fun _ _ => rfl⟩
theorem But.trans {a b : List Nat} {σ σ1 σ2 : L2.St} (p : But a σ σ1) (q : But b σ1 σ2) : But (a ++ b) σ σ2 :=
  ⟨q.1.trans p.1, fun j hj => (q.2 j fun z => hj (List.mem_append_right _ z)).trans (p.2 j fun z => hj (List.mem_append_left _ z))⟩
theorem But.mono {a b : List Nat} {σ σ1 : L2.St} (p : But a σ σ1) (h : ∀ i ∈ a, i ∈ b) : But b σ σ1 := ⟨p.1, fun j hj => p.2 j fun z => hj (h j z)⟩
mutual
theorem simT {g : Mod} {k : Nat} {c : Cc} (xr : XR g k X c) : ∀ (t : Tg) (tx : Expr), chkT c tx t = true → PG X tx (tTg X.K t)
  | .nm i, tx, h => by
    unfold chkT at h
    split at h
    · rename_i x _
      simp only [Bool.and_eq_true, Bool.or_eq_true, decide_eq_true_eq] at h
      obtain ⟨h1, h2⟩ := h
      have hx : L2.Loc X.env.scope x := by
        rw [xr.sc]
        rcases h2 with h2 | h2
        · exact .inl h2
        · exact .inr h2.1
      have hf : X.fn x = true ∨ X.env.scope.names.lookup x = some .local := by
        rcases h2 with h2 | h2
        · exact .inr (by rw [xr.sc]; exact h2)
        · exact .inl (by rw [xr.fn]; exact h2.2)
      refine (pg_name xr.nd (by rw [xr.hN]; exact h1) hx hf).imp fun v σ H Q hh => ?_
      obtain ⟨φ, m, env, env', rv, w, e, q⟩ := hh
      simp only [bindT] at e
      cases e
      refine q _ (w.set rv) ⟨List.length_set, fun j hj => ?_⟩
      rw [List.getElem?_set_ne]
      intro z; exact hj (by rw [← z]; exact List.mem_singleton.mpr rfl)
    · cases h
  | .tup ts, tx, h => by
    unfold chkT at h
    split at h
    · rename_i es _ _
      obtain ⟨e1, e2⟩ := aE_len (env := X.env) h
      refine (pg_tup xr.calm (simTs xr ts es h) e1 e2).imp fun v σ H Q hh => ?_
      obtain ⟨φ, m, env, env', rv, w, e, q⟩ := hh
      simp only [bindT] at e
      split at e
      · rename_i ms
        obtain ⟨a, vs, rfl, t, r, z⟩ := rv
        have hl : ∀ {ts : List Tg} {ms : List MV} {env env' : Env}, bindTs ts ms env = some env' → ms.length = ts.length := by
          intro ts
          induction ts with
          | nil => intro ms env env' e; cases ms <;> simp [bindTs] at e ⊢
          | cons t ts ih =>
            intro ms env env' e
            cases ms with
            | nil => simp [bindTs] at e
            | cons m ms =>
              simp only [bindTs, Option.bind_eq_some_iff] at e
              obtain ⟨e0, _, e⟩ := e
              exact congrArg (· + 1) (ih e)
        exact ⟨a, vs, rfl, t, by rw [r.len]; exact hl e, φ, ms, env, env', r, w, e, q⟩
      · cases e
    · cases h
theorem simTs {g : Mod} {k : Nat} {c : Cc} (xr : XR g k X c) : ∀ (ts : List Tg) (txs : List Expr), chkTs c txs ts = true → PGs X txs (tTgs X.K ts)
  | [], txs, h => by
    cases txs with
    | cons _ _ => simp [chkTs] at h
    | nil =>
      refine pgs_nil.imp fun v σ H Q hh => ?_
      obtain ⟨φ, ms, env, env', rv, w, e, q⟩ := hh
      cases ms with
      | cons _ _ => simp [bindTs] at e
      | nil =>
        cases rv
        simp only [bindTs] at e
        cases e
        exact ⟨rfl, q σ w (.refl _ _)⟩
  | t :: ts, txs, h => by
    cases txs with
    | nil => simp [chkTs] at h
    | cons tx txs =>
      simp only [chkTs, Bool.and_eq_true] at h
      refine (pgs_cons (simT xr t tx h.1.2) (simTs xr ts txs h.2) (by rw [aE_of h.1.1]; rfl)).imp fun v σ H Q hh => ?_
      obtain ⟨φ, ms, env, env', rv, w, e, q⟩ := hh
      cases ms with
      | nil => simp [bindTs] at e
      | cons m ms =>
        simp only [bindTs, Option.bind_eq_some_iff] at e
        obtain ⟨e0, f1, f2⟩ := e
        obtain ⟨u, us, rfl, r1, r2⟩ := rv
        exact ⟨u, us, rfl, φ, m, env, e0, r1, w, f1, fun σ1 w1 b1 => ⟨φ, ms, e0, env', r2, w1, f2, fun σ2 w2 b2 => q σ2 w2 (b1.trans b2)⟩⟩
end
theorem wipe_wipe (σ : L2.St) (vs : List Nat) : L2.wipe (L2.wipe σ vs) vs = L2.wipe σ vs :=
  But.wipe (ns := vs) ⟨wipe_length σ vs, fun j hj => But.wipe.wipe_out' hj⟩ fun _ h => h
theorem gc_flat {h : MH} {r : MV × MH} (hl : r.1.lt h.length) (hn : ∀ p, r.1 ≠ .ref p) : (gc h r).1 = r.1 := by
  unfold gc
  split
  · first | rfl | rw [if_pos hl]
  · rfl
theorem compL_len {tgt : Tg} {st : Its} {env : Env} {tst elt : Env → MH → R} : ∀ {xs acc : List MV} {h : MH} {r}, compL tgt st env tst elt xs acc h = some r → r.1.length ≤ acc.length + xs.length
  | [], acc, h, r, e => by
    simp only [compL] at e
    split at e
    · cases e; exact Nat.le_refl _
    · cases e
  | x :: xs, acc, h, r, e => by
    simp only [compL] at e
    split at e
    · simp only [Option.bind_eq_some_iff] at e
      obtain ⟨e0, _, b, _, e⟩ := e
      split at e
      · simp only [Option.bind_eq_some_iff] at e
        obtain ⟨y, _, e⟩ := e
        have := compL_len e
        simp only [List.length_append, List.length_cons, List.length_nil] at this ⊢
        omega
      · have := compL_len e
        simp only [List.length_cons]
        omega
      · cases e
    · cases e
/-- the state of a comprehension's walk at turn i -/
structure CompSt (K : Fra) (φ1 : List Addr) (H1 : Hp) (D : Addr) (st : Its) (t : Tg) (env : Env) (tst elt : Env → MH → R) (res : List MV × MH) (i : Nat) (H : Hp) : Prop where
  ex : ∃ φ2 h2 acc vs, Stp φ1 H1 φ2 H ∧ HR K φ2 h2 H ∧ D ∉ φ2 ∧ H D = some (.lst vs) ∧ RVs K φ2 H vs acc ∧ acc.length ≤ i ∧ compL t st env tst elt (st.items.drop i) acc h2 = some res
theorem sim_comp {c : Cc} {g : Mod} {k : Nat} (xr : XR g k X c) {ex2 : Expr} {gen : Comprehension} {scope : Scope} {pos : Pos} {t : Tg} {evi : Env → MH → Option (Its × MH)} {own : List (Str × Nat)} {et ee : Env → MH → R}
    (hpi : PI X gen.target gen.iter (tI X.K evi)) (hasy : gen.is_async = 0) (hok : okX gen.iter = true) (hblk : blkC c.N c.sc scope own = true) (ht : ∀ X', XR g k X' ⟨c.N, relS scope c.sc, fun x => scope.names.lookup x == some .cell⟩ → PG X' gen.target (tTg X'.K t))
    (hsl : ∀ i ∈ slotsT t, i ∈ own.map (·.2))
    (htst : ∀ X', XR g k X' ⟨c.N, relS scope c.sc, fun x => scope.names.lookup x == some .cell⟩ → PTs X' gen.ifs (tTv X'.K et))
    (helt : ∀ X', XR g k X' ⟨c.N, relS scope c.sc, fun x => scope.names.lookup x == some .cell⟩ → PE X' ex2 (tEv X'.K ee)) :
    ∃ tt, PE X (.ListComp ex2 [gen] scope pos) tt ∧ (∀ {i : Nat} {y : Str} {py spos : Pos}, X.N[i]? = some y → X.env.scope.names.lookup y = some .local → swapsWith (.ListComp ex2 [gen] scope pos) (some (.Name y py)) spos.line X.env = pure true → PS X (.Assign [.Name y py] (.ListComp ex2 [gen] scope pos) spos) (tAsg tt (gName i))) ∧
      ∀ σ H Q, tEv X.K (fun env h => (evi env h).bind fun q => (compL t q.1 (wipeM env (own.map (·.2))) (fun e h => (et e h).bind fun x => (truth x.2 x.1).map fun b => gc h (.bl b, x.2)) ee q.1.items [] q.2).map fun q => (.ref q.2.length, q.2 ++ [.lst q.1])) σ H Q → tt σ H Q := by
  obtain ⟨tgx, itx, ifx, asy⟩ := gen
  simp only at hasy hok ht htst hpi
  subst hasy
  have hN : X.N.Nodup := xr.nd
  have hb : BlkOk X.N X.env.scope scope own := blkOk_by (by rw [xr.hN, xr.sc]; exact hblk)
  refine ⟨tLc (tI X.K evi) (tTg X.K t) (tTv X.K et) (tEv X.K ee) (own.map (·.2)), pe_lc xr.calm hN hpi hb (fun s H C cl fp => ht _ (xr.blk s H scope C cl fp)) (fun s H C cl fp => htst _ (xr.blk s H scope C cl fp)) (fun s H C cl fp => helt _ (xr.blk s H scope C cl fp)) (folded_of hok),
    fun hi hy hsw => ps_setLc xr.calm hN hi hy hsw hpi hb (fun s H C cl fp => ht _ (xr.blk s H scope C cl fp)) (fun s H C cl fp => htst _ (xr.blk s H scope C cl fp)) (fun s H C cl fp => helt _ (xr.blk s H scope C cl fp)) (folded_of hok), fun σ H Q hh => ?_⟩
  obtain ⟨φ, hp, env, r, w, e, q⟩ := hh
  simp only [Option.bind_eq_some_iff, Option.map_eq_some_iff] at e
  obtain ⟨st, e1, res, e2, rfl⟩ := e
  refine ⟨φ, hp, env, st, w, e1, fun φ1 H1 J s1 hr1 wm D hD => ?_⟩
  obtain ⟨hzl, G, Y, wk, wG, wY⟩ := wm
  have w1 : EnvR X.K φ1 H1 env σ := w.er.mono (s1.wk w.hr.dom)
  refine lc_it wk (CompSt X.K φ1 H1 D st.1 t (wipeM env (own.map (·.2))) (fun e h => (et e h).bind fun x => (truth x.2 x.1).map fun b => gc h (.bl b, x.2)) ee res) ⟨φ1, st.2, [], [], stp_new hD, hr1.new hD, fun z => ?_, upd_same, rfl, Nat.le_refl _, e2⟩ (fun i H2 hi p => ?_) (fun i x H2 H3 hi p y => ?_) fun H2 p => ?_
  · obtain ⟨vs, hv⟩ := hr1.dom D z
    rw [hD] at hv; cases hv
  · -- what is walked stands
    obtain ⟨φ2, h2, acc, vs, p1, p2, p3, p4, p5, p6, p7⟩ := p.ex
    refine wG φ2 h2 H2 p1 p2 ?_
    cases hd : st.1.items.drop i with
    | nil =>
      rw [hd] at p7
      simp only [compL] at p7
      split at p7
      · assumption
      · cases p7
    | cons z zs =>
      rw [hd] at p7
      simp only [compL] at p7
      split at p7
      · assumption
      · cases p7
  · -- a turn
    obtain ⟨φ2, h2, acc, vs, p1, p2, p3, p4, p5, p6, p7⟩ := p.ex
    have hd : st.1.items.drop i = st.1.items[i] :: st.1.items.drop (i + 1) := List.drop_eq_getElem_cons hi
    rw [hd] at p7
    simp only [compL] at p7
    split at p7
    · rename_i hst
      simp only [Option.bind_eq_some_iff, Option.map_eq_some_iff] at p7
      obtain ⟨env1, f1, b, f2, f3⟩ := p7
      obtain ⟨m, g1, g2, g3, g4⟩ := wY i H2 x H3 φ2 h2 hi p1 p2 hst y
      rw [List.getElem?_eq_getElem hi] at g1
      cases g1
      have p1' := p1.trans g3
      have er2 : EnvR X.K φ2 H3 (wipeM env (own.map (·.2))) (L2.wipe σ (own.map (·.2))) := (w1.mono (p1'.wk hr1.dom)).wipe _
      have hD3 : H3 D = some (.lst vs) := g3.keep _ _ p4 p3
      have r5 : RVs X.K φ2 H3 vs acc := RVs.mono g3 p2.dom _ _ p5
      refine ⟨φ2, st.1.items[i], _, env1, g2, er2, f1, fun σ2 er3 bt => ⟨(bt.wipe hsl).trans (wipe_wipe _ _), ?_⟩⟩
      obtain ⟨xb, f4, c1, f5, f6⟩ := f2
      have ew3 : Ew X.K φ2 h2 env1 σ2 H3 := er3.ew g4
      refine ⟨φ2, h2, env1, xb, ew3, f4, c1, f5, fun φ4 H4 s4 hr4 => ?_⟩
      -- the test's rest is let go
      obtain ⟨φ5, s5, hr5, _⟩ := gc_ok (v := .bl c1) (r := (.bl c1, xb.2)) g4 s4 hr4 rfl
      rw [f6] at hr5
      have gb : b.1 = .bl c1 := by
        rw [← f6]
        exact gc_flat (by cases c1 <;> exact True.intro) (fun p z => nomatch z)
      have D5 : D ∉ φ5 := fun z => by
        rcases s5.new D z with z | z
        · exact p3 z
        · rw [hD3] at z; cases z
      have hD4 : H4 D = some (.lst vs) := s5.keep _ _ hD3 p3
      cases c1 with
      | false =>
        rw [gb] at f3
        simp only at f3
        rw [if_neg Bool.false_ne_true]
        exact ⟨φ5, b.2, acc, vs, p1'.trans s5, hr5, D5, hD4, RVs.mono s5 g4.dom _ _ r5, by omega, f3⟩
      | true =>
        rw [gb] at f3
        simp only [Option.bind_eq_some_iff] at f3
        rw [if_pos rfl]
        obtain ⟨xe, f7, f8⟩ := f3
        have ew5 : Ew X.K φ5 b.2 env1 σ2 H4 := (er3.mono (s5.wk g4.dom)).ew hr5
        refine ⟨φ5, b.2, env1, xe, ew5, f7, fun φ6 H6 y6 s6 hr6 rv6 => ?_⟩
        have s56 := s5.trans s6
        obtain ⟨φ7, s7, hr7, rv7⟩ := gc_ok g4 s56 hr6 rv6
        have D7 : D ∉ φ7 := fun z => by
          rcases s7.new D z with z | z
          · exact p3 z
          · rw [hD3] at z; cases z
        have hD6 : H6 D = some (.lst vs) := s7.keep _ _ hD3 p3
        have r7 : RVs X.K φ7 H6 vs acc := RVs.mono s7 g4.dom _ _ r5
        have hlen : (acc ++ [(gc h2 xe).1]).length ≤ i + 1 := by rw [List.length_append]; exact Nat.add_le_add_right p6 1
        refine ⟨vs, hD6, by rw [r7.len]; omega, ?_⟩
        have pk : Wk φ7 H6 φ7 (upd H6 D (.lst (vs ++ [y6]))) := wk_poke hD6
        refine ⟨φ7, (gc h2 xe).2, acc ++ [(gc h2 xe).1], vs ++ [y6], ?_, ?_, D7, upd_same, RVs.wk pk _ _ (r7.app (.one rv7)), hlen, f8⟩
        · have t := p1'.trans s7
          refine ⟨t.ext, fun a o ea na => ?_, t.new⟩
          have : a ≠ D := fun z => by rw [z, hD] at ea; cases ea
          rw [upd_ne this]
          exact t.keep a o ea na
        · refine ⟨hr7.len, hr7.nd, fun j a o ej ho => ?_⟩
          have q0 := hr7.at_ j a o ej ho
          have : a ≠ D := fun z => D7 (by rw [← z]; exact List.mem_of_getElem? ej)
          cases o with
          | lst ys =>
            obtain ⟨ws, q1, q2, q3⟩ := q0
            exact ⟨ws, by rw [upd_ne this]; exact q1, RVs.wk pk _ _ q2, q3⟩
    · cases p7
  · -- the end
    obtain ⟨φ2, h2, acc, vs, p1, p2, p3, p4, p5, p6, p7⟩ := p.ex
    rw [List.drop_length] at p7
    simp only [compL] at p7
    split at p7
    · cases p7
      have hz : acc.length ≤ sizeLine := Nat.le_trans p6 hzl
      have s2 : Stp φ1 H1 (φ2 ++ [D]) H2 := ⟨by
          obtain ⟨l, el⟩ := p1.ext
          exact ⟨l ++ [D], by rw [el, List.append_assoc]⟩, p1.keep, fun a ha => by
          rcases List.mem_append.mp ha with z | z
          · exact p1.new a z
          · right; rw [List.mem_singleton.mp z]; exact hD⟩
      refine q (φ2 ++ [D]) H2 _ (s1.trans s2) ?_ ⟨D, ?_, rfl⟩
      · refine ⟨by simp [p2.len], ?_, fun j a o ej ho => ?_⟩
        · rw [List.nodup_append]
          refine ⟨p2.nd, by simp, fun a ha b hb => ?_⟩
          rw [List.mem_singleton.mp hb]
          intro z; rw [z] at ha; exact p3 ha
        · by_cases hj : j < φ2.length
          · rw [List.getElem?_append_left hj] at ej
            have ho : (h2 ++ [MO.lst acc])[j]? = some o := ho
            rw [List.getElem?_append_left (by rw [← p2.len]; exact hj)] at ho
            have q0 := p2.at_ j a o ej ho
            cases o with
            | lst ys =>
              obtain ⟨ws, q1, q2, q3⟩ := q0
              exact ⟨ws, q1, RVs.ext _ _ q2, q3⟩
          · have hj2 : j = φ2.length := by
              have := (List.getElem?_eq_some_iff.mp ej).1
              rw [List.length_append, List.length_singleton] at this
              omega
            subst hj2
            rw [List.getElem?_append_right (Nat.le_refl _), Nat.sub_self] at ej
            have ho : (h2 ++ [MO.lst acc])[φ2.length]? = some o := ho
            rw [List.getElem?_append_right (by rw [p2.len]; exact Nat.le_refl _), p2.len, Nat.sub_self] at ho
            cases ej; cases ho
            exact ⟨vs, p4, RVs.ext _ _ p5, hz⟩
      · show (φ2 ++ [D])[h2.length]? = some D
        rw [← p2.len, List.getElem?_append_right (Nat.le_refl _), Nat.sub_self]
        rfl
    · cases p7
end
end MP
namespace MP
open PySem PySem.Spec PyProof.Rows L2
section
variable {X : Cx} {K : Fra} {φ φ' φ1 φ2 : List Addr} {H H' H1 H2 : Hp} {h h' h1 h2 : MH} {v : V} {m : MV} {env : Env} {σ : L2.St}
theorem Sim.congr {ex : Expr} {ev ev' : Env → MH → R} (h : Sim X ex ev) (e : ∀ env h, ev' env h = ev env h) : Sim X ex ev' := by
  have : ev' = ev := funext fun a => funext fun b => e a b
  rw [this]; exact h
theorem gc_self {h : MH} {v : MV} (hl : v.lt h.length) : gc h (v, h) = (v, h) := by
  unfold gc
  rw [if_pos ⟨Nat.le_refl _, fun i o _ q => .inl q⟩, if_pos hl, List.take_length]
theorem evEs_one {g : Mod} {cf : Str → List MV → MH → R} {e : E} {env : Env} {h : MH} : evEs g cf [e] env h = (evE g cf e env h).map fun x => ([x.1], x.2) := by
  simp only [evEs]
  cases evE g cf e env h <;> rfl
theorem _root_.L2.PTs.imp {X : Cx} {e : List Expr} {t t' : TT} (h : PTs X e t) (k : ∀ σ H Q, t' σ H Q → t σ H Q) : PTs X e t' := ⟨fun pins s σ H Q I q => h.run pins s σ H Q I (k _ _ _ q)⟩
def allOk : List Expr → Prop
  | [] => True
  | x :: xs => okX x = true ∧ allOk xs
theorem okEs {g : Mod} {c : Cc} : ∀ {xs : List Expr} {es : List E}, chkEs g c xs es = true → allOk xs
  | [], _, _ => True.intro
  | x :: xs, [], h => by simp [chkEs] at h
  | x :: xs, e :: es, h => by
    simp only [chkEs, Bool.and_eq_true] at h
    exact ⟨okE h.1, okEs h.2⟩
/-- list(range(a, b)) -/
theorem sim_lr2 {g : Mod} {k : Nat} {c : Cc} (xr : XR g k X c) {a b : Expr} {e1 e2 : E} {p p2 pos pos2 : Pos} (hg : isGl c.sc "list" = true) (hg2 : isGl c.sc "range" = true) (h1 : okX a = true) (h2 : okX b = true) (ha : PE X a (tEv X.K (evE g (run g k) e1))) (hb : PE X b (tEv X.K (evE g (run g k) e2))) :
    PE X (.Call (.Name "list" p) [.Call (.Name "range" p2) [a, b] [] pos2] [] pos) (tEv X.K fun env h => (evEs g (run g k) [e1, e2] env h).bind fun r => (itsM .rng2 r.2 r.1).map fun st => (.ref r.2.length, r.2 ++ [.lst st.items])) := by
  refine (pe_listRg xr.calm (xr.gl hg) (xr.blt "list" (by decide +kernel)) (prg_2 (xr.gl hg2) (xr.blt "range" (by decide +kernel)) ha hb (star_of h1) (star_of h2) (by rw [star_of h2]; rfl)) rfl).imp fun σ H Q hh => ?_
  obtain ⟨φ, hp, env, r, w, f0, q⟩ := hh
  simp only [evEs, Option.bind_eq_some_iff, Option.map_eq_some_iff, Option.map_some] at f0
  obtain ⟨x, ⟨y, f1, f2⟩, st, f3, rfl⟩ := f0
  obtain ⟨z, ⟨y2, f4, f5⟩, rfl⟩ := f2
  cases f5
  refine go w f1 fun φ1 H1 v1 s1 w1 r1 => go w1 f4 fun φ2 H2 v2 s2 w2 r2 => ?_
  unfold itsM at f3
  simp only at f3
  split at f3
  · rename_i m n hn
    split at f3
    · rename_i hz
      cases f3
      have hn1 : y.1 = .int m := by injection hn
      have hn2 : y2.1 = .int n := by
        injection hn with _ hn
        injection hn
      rw [hn1] at r1
      rw [hn2] at r2
      cases r1; cases r2
      refine ⟨m, n, rfl, rfl, hz, ?_⟩
      refine (q.on (s1.trans s2)).lst w2.hr ?_ ?_
      · unfold rgV
        refine RVs.of (by simp) fun i x v h1 h2 => ?_
        rw [List.getElem?_map] at h1 h2
        simp only [Option.map_eq_some_iff] at h1 h2
        obtain ⟨a, h1, rfl⟩ := h1
        obtain ⟨b, h2, rfl⟩ := h2
        rw [h1] at h2
        cases h2
        rfl
      · rw [List.length_map, List.length_range]
        exact hz.2.2.2.2
    · cases f3
  · cases f3
/-- the iterable of a comprehension or a for, from its parts -/
theorem pi_of {g : Mod} {k : Nat} {c : Cc} (xr : XR g k X c) {iter tg : Expr} {kk : IK} {es : List E} (hok : okX iter = true)
    (hc : chkI c kk iter (fun xs => chkEs g c xs es) = true)
    (h1 : ∀ e x, es = [e] → chkE g c x e = true → PE X x (tEv X.K (evE g (run g k) e))) (hA : ∀ xs, chkEs g c xs es = true → PA X xs (tEs X.K (evEs g (run g k) es))) :
    PI X tg iter (tI X.K fun env h => (evEs g (run g k) es env h).bind fun r => itsG kk h r) := by
  cases kk with
  | ex =>
    have hc : chkEs g c [iter] es = true := hc
    cases es with
    | nil => simp [chkEs] at hc
    | cons e es =>
      cases es with
      | cons _ _ => simp [chkEs] at hc
      | nil =>
        simp only [chkEs, Bool.and_eq_true] at hc
        have := pi_ex (tg := tg) (h1 e iter rfl hc.1)
        have ee : (fun env h => (evEs g (run g k) [e] env h).bind fun r => itsG .ex h r) = fun env h => (evE g (run g k) e env h).bind fun r => itsG .ex h ([r.1], r.2) := by
          funext env h
          rw [evEs_one]
          cases evE g (run g k) e env h <;> rfl
        rw [ee]
        exact this
  | rng1 =>
    rcases chkR_of (show chkR c .rng1 iter (fun xs => chkEs g c xs es) = true from hc) with ⟨_, p, x, p2, rfl, h3, h4⟩ | ⟨z, _⟩
    · have ho := okEs h4
      exact pi_r1 (xr.gl h3) (xr.blt "range" (by decide +kernel)) (hA _ h4) (star_of ho.1)
    · cases z
  | rng2 =>
    rcases chkR_of (show chkR c .rng2 iter (fun xs => chkEs g c xs es) = true from hc) with ⟨z, _⟩ | ⟨_, p, x, y, p2, rfl, h3, h4⟩
    · cases z
    · have ho := okEs h4
      exact pi_r2 (xr.gl h3) (xr.blt "range" (by decide +kernel)) (hA _ h4) (by rw [star_of ho.1, star_of ho.2.1]; rfl) (star_of ho.2.1)
def SimF (g : Mod) (k : Nat) (e : E) : Prop := ∀ (ex : Expr) (c : Cc) (X : Cx), XR g k X c → chkE g c ex e = true → Sim X ex (evE g (run g k) e)
def SimL (g : Mod) (k : Nat) (es : List E) : Prop := ∀ e ∈ es, SimF g k e
theorem pa_all {g : Mod} {k : Nat} : ∀ (es : List E) (exs : List Expr) (c : Cc) (X : Cx), SimL g k es → XR g k X c → chkEs g c exs es = true → PA X exs (tEs X.K (evEs g (run g k) es))
  | [], exs, c, X, ih, xr, hc => by
    cases exs with
    | cons _ _ => simp [chkEs] at hc
    | nil =>
      refine pa_nil.imp fun σ H Q hh => ?_
      obtain ⟨φ, h, env, r, w, e, q⟩ := hh
      simp only [evEs] at e; cases e
      exact q φ H [] .refl w.hr rfl
  | e :: es, exs, c, X, ih, xr, hc => by
    cases exs with
    | nil => simp [chkEs] at hc
    | cons x xs =>
      simp only [chkEs, Bool.and_eq_true] at hc
      refine (pa_cons (ih e List.mem_cons_self x c X xr hc.1).pe (pa_all es xs c X (fun a ha => ih a (List.mem_cons_of_mem _ ha)) xr hc.2) (star_of (okE hc.1))).imp fun σ H Q hh => ?_
      obtain ⟨φ, h, env, r, w, e0, q⟩ := hh
      simp only [evEs, Option.bind_eq_some_iff, Option.map_eq_some_iff] at e0
      obtain ⟨y, e1, rs, e2, rfl⟩ := e0
      exact go w e1 fun φ1 H1 v1 s1 w1 r1 => goA w1 e2 fun φ2 H2 vs s2 w2 r2 => q φ2 H2 (v1 :: vs) (s1.trans s2) w2.hr ⟨v1, vs, rfl, RV.mono s2 w1.hr.dom _ _ r1, r2⟩
theorem comp_core {g : Mod} {k : Nat} {elt : E} {t : Tg} {kk : IK} {es cs : List E} {own : List (Str × Nat)} {c : Cc} (xr : XR g k X c) {ex : Expr} (hc : chkE g c ex (.comp elt t kk es cs own) = true) (ihs : SimL g k es) (ihc : SimL g k cs) (ihe : SimF g k elt) :
    ∃ ex2 gen scope pos tt, ex = .ListComp ex2 [gen] scope pos ∧ PE X ex tt ∧ (∀ {i : Nat} {y : Str} {py spos : Pos}, X.N[i]? = some y → X.env.scope.names.lookup y = some .local → swapsWith ex (some (.Name y py)) spos.line X.env = pure true → PS X (.Assign [.Name y py] ex spos) (tAsg tt (gName i))) ∧
      ∀ σ H Q, tEv X.K (evE g (run g k) (.comp elt t kk es cs own)) σ H Q → tt σ H Q := by
  simp only [chkE, Bool.and_eq_true] at hc
  obtain ⟨hokx, hc⟩ := hc
  split at hc
  · rename_i ex2 gen scope pos
    simp only [Bool.and_eq_true, decide_eq_true_eq] at hc
    obtain ⟨⟨⟨⟨⟨⟨⟨⟨⟨⟨⟨h1, h2⟩, h3⟩, h4⟩, h5⟩, h6⟩, h7⟩, h8⟩, h9⟩, h10⟩, h11⟩, h12⟩ := hc
    have hpi : PI X gen.target gen.iter (tI X.K fun env h => (evEs g (run g k) es env h).bind fun r => itsG kk h r) :=
      pi_of xr h2 h3 (fun e x he hx => (ihs e (by rw [he]; exact List.mem_singleton.mpr rfl) x c X xr hx).pe) (fun xs hx => pa_all es xs c X ihs xr hx)
    have hsl : ∀ i ∈ slotsT t, i ∈ own.map (·.2) := fun i hi => by
      have := List.all_eq_true.mp h7 i hi
      simpa using this
    have ht : ∀ X', XR g k X' ⟨c.N, relS scope c.sc, fun x => scope.names.lookup x == some .cell⟩ → PG X' gen.target (tTg X'.K t) := fun X' x' => simT x' t _ h6
    have he : ∀ X', XR g k X' ⟨c.N, relS scope c.sc, fun x => scope.names.lookup x == some .cell⟩ → PE X' ex2 (tEv X'.K (evE g (run g k) elt)) := fun X' x' => (ihe _ _ X' x' h12).pe
    cases cs with
    | nil =>
      have hi : gen.ifs = [] := List.length_eq_zero_iff.mp h8
      have hT : ∀ X', XR g k X' ⟨c.N, relS scope c.sc, fun x => scope.names.lookup x == some .cell⟩ → PTs X' gen.ifs (tTv X'.K fun _ h => some (.bl true, h)) := fun X' x' => by
        rw [hi]
        refine pts_nil.imp fun σ H Q hh => ?_
        obtain ⟨φ, h, env, r, w, e, b, t, q⟩ := hh
        cases e; cases t
        exact q φ H .refl w.hr
      obtain ⟨tt, p1, p2, p3⟩ := sim_comp (pos := pos) xr hpi h1 h2 h4 ht hsl hT he
      refine ⟨ex2, gen, scope, pos, tt, rfl, p1, p2, fun σ H Q hh => p3 σ H Q ?_⟩
      have ev : evE g (run g k) (.comp elt t kk es [] own) = fun env h => ((evEs g (run g k) es env h).bind fun r => itsG kk h r).bind fun q => (compL t q.1 (wipeM env (own.map (·.2))) (fun e h => ((some (MV.bl true, h) : R)).bind fun x => (truth x.2 x.1).map fun b => gc h (.bl b, x.2)) (evE g (run g k) elt) q.1.items [] q.2).map fun q => (.ref q.2.length, q.2 ++ [.lst q.1]) := by
        funext env h
        simp only [evE]
        have e1 : (fun (e : Env) (h : MH) => (some (MV.bl true, h) : R)) = fun e h => ((some (MV.bl true, h) : R)).bind fun x => (truth x.2 x.1).map fun b => gc h (.bl b, x.2) := by
          funext e h
          show some (MV.bl true, h) = some (gc h (.bl true, h))
          rw [gc_self (v := .bl true) (by unfold MV.lt; exact True.intro)]
        rw [e1]
        cases evEs g (run g k) es env h <;> rfl
      rw [ev] at hh
      exact hh
    | cons c1 cs =>
      have hcs : cs = [] := by
        simp only [List.length_cons] at h9
        exact List.length_eq_zero_iff.mp (by omega)
      subst hcs
      obtain ⟨ix, hi⟩ : ∃ ix, gen.ifs = [ix] := by
        cases hg : gen.ifs with
        | nil => rw [hg] at h8; cases h8
        | cons a r =>
          cases r with
          | nil => exact ⟨a, rfl⟩
          | cons _ _ => rw [hg] at h8; simp at h8
      have hT : ∀ X', XR g k X' ⟨c.N, relS scope c.sc, fun x => scope.names.lookup x == some .cell⟩ → PTs X' gen.ifs (tTv X'.K (evE g (run g k) c1)) := fun X' x' => by
        rw [hi] at h10 h11 ⊢
        simp only [chkEs, Bool.and_eq_true] at h11
        simp only [List.all_cons, Bool.and_eq_true] at h10
        exact pts_one ((ihc c1 List.mem_cons_self ix _ X' x' h11.1).pt h10.1)
      obtain ⟨tt, p1, p2, p3⟩ := sim_comp (pos := pos) xr hpi h1 h2 h4 ht hsl hT he
      refine ⟨ex2, gen, scope, pos, tt, rfl, p1, p2, fun σ H Q hh => p3 σ H Q ?_⟩
      have ev : evE g (run g k) (.comp elt t kk es [c1] own) = fun env h => ((evEs g (run g k) es env h).bind fun r => itsG kk h r).bind fun q => (compL t q.1 (wipeM env (own.map (·.2))) (fun e h => (evE g (run g k) c1 e h).bind fun x => (truth x.2 x.1).map fun b => gc h (.bl b, x.2)) (evE g (run g k) elt) q.1.items [] q.2).map fun q => (.ref q.2.length, q.2 ++ [.lst q.1]) := by
        funext env h
        simp only [evE]
        cases evEs g (run g k) es env h <;> rfl
      rw [ev] at hh
      exact hh
  · cases hc
mutual
theorem simE {g : Mod} {k : Nat} : ∀ (e : E), SimF g k e
  | .var i, ex, c, X, xr, hc => by
    simp only [chkE, Bool.and_eq_true] at hc
    obtain ⟨hokx, hc⟩ := hc
    split at hc
    · rename_i x _
      simp only [Bool.and_eq_true, decide_eq_true_eq] at hc
      refine .of ((pe_var (i := i) (by rw [xr.hN]; exact hc.1.1) (by rw [xr.sc]; exact isVis_of hc.1.2) (okN_d hc.2).1 (okN_d hc.2).2).imp fun σ H Q hh => ?_) rfl
      obtain ⟨φ, h, env, r, w, e, q⟩ := hh
      simp only [evE] at e
      split at e
      · rename_i m hm
        cases e
        obtain ⟨v, e1, e2⟩ := w.at_ i m hm
        exact ⟨v, e1, q.now w.hr e2⟩
      · cases e
    · cases hc
  | .non, ex, c, X, xr, hc => by
    simp only [chkE, Bool.and_eq_true] at hc
    obtain ⟨hokx, hc⟩ := hc
    split at hc
    · refine .of (pe_non.imp fun σ H Q hh => ?_) rfl
      obtain ⟨φ, h, env, r, w, e, q⟩ := hh
      simp only [evE] at e; cases e
      exact q.now w.hr rfl
    · cases hc
  | .bl b, ex, c, X, xr, hc => by
    simp only [chkE, Bool.and_eq_true] at hc
    obtain ⟨hokx, hc⟩ := hc
    split at hc
    · have hc := eq_of_beq hc
      subst hc
      refine .of (pe_bl.imp fun σ H Q hh => ?_) rfl
      obtain ⟨φ, h, env, r, w, e, q⟩ := hh
      simp only [evE] at e; cases e
      exact q.now w.hr rfl
    · cases hc
  | .int b, ex, c, X, xr, hc => by
    simp only [chkE, Bool.and_eq_true] at hc
    obtain ⟨hokx, hc⟩ := hc
    split at hc
    · have hc := eq_of_beq hc
      subst hc
      refine .of (pe_int.imp fun σ H Q hh => ?_) rfl
      obtain ⟨φ, h, env, r, w, e, q⟩ := hh
      simp only [evE] at e; cases e
      exact q.now w.hr rfl
    · cases hc
  | .str b, ex, c, X, xr, hc => by
    simp only [chkE, Bool.and_eq_true] at hc
    obtain ⟨hokx, hc⟩ := hc
    split at hc
    · simp only [Bool.and_eq_true, decide_eq_true_eq] at hc
      obtain ⟨rfl, hl⟩ := hc
      refine .of (pe_str.imp fun σ H Q hh => ?_) rfl
      obtain ⟨φ, h, env, r, w, e, q⟩ := hh
      simp only [evE] at e; cases e
      exact q.now w.hr ⟨rfl, Nat.le_trans hl (by decide)⟩
    · cases hc
  | .glob x, ex, c, X, xr, hc => by
    simp only [chkE, Bool.and_eq_true] at hc
    obtain ⟨hokx, hc⟩ := hc
    split at hc
    · simp only [Bool.and_eq_true, decide_eq_true_eq] at hc
      obtain ⟨⟨rfl, hg⟩, hn⟩ := hc
      cases hx : g.cns.lookup x with
      | none =>
        refine .of (PE.imp (t := fun _ _ _ => False) ⟨fun _ _ _ _ _ _ z => z.elim⟩ fun σ H Q hh => ?_) rfl
        obtain ⟨φ, h, env, r, w, e, q⟩ := hh
        simp only [evE, hx] at e; cases e
      | some m =>
        obtain ⟨u, w0, e1, e2, e3⟩ := xr.cns x m hx
        refine .of ((pe_glob (xr.gl hg) e1 e2 (okN_d hn).1).imp fun σ H Q hh => ?_) rfl
        obtain ⟨φ, h, env, r, w, e, q⟩ := hh
        simp only [evE, hx] at e; cases e
        exact q.now w.hr (by have := RV.ext (l := φ) _ _ (e3 H); rwa [List.nil_append] at this)
    · cases hc
  | .tup es, ex, c, X, xr, hc => by
    simp only [chkE, Bool.and_eq_true] at hc
    obtain ⟨hokx, hc⟩ := hc
    split at hc
    · simp only [Bool.and_eq_true, decide_eq_true_eq] at hc
      have ih := pa_all es _ c X (simAll es) xr hc.1
      refine (Sim.of (sim_tup ih fun env h r e => ?_) rfl).congr fun env h => by simp only [evE]
      rw [evEs_len e, ← chkEs_len hc.1]
      exact Nat.le_trans hc.2 (by decide)
    · cases hc
  | .lst es, ex, c, X, xr, hc => by
    simp only [chkE, Bool.and_eq_true] at hc
    obtain ⟨hokx, hc⟩ := hc
    split at hc
    · simp only [Bool.and_eq_true, decide_eq_true_eq] at hc
      have ih := pa_all es _ c X (simAll es) xr hc.1
      refine (Sim.of (sim_lst ih fun env h r e => ?_) rfl).congr fun env h => by simp only [evE]
      rw [evEs_len e, ← chkEs_len hc.1]
      exact Nat.le_trans hc.2 (by decide)
    · cases hc
  | .bin o a b, ex, c, X, xr, hc => by
    simp only [chkE, Bool.and_eq_true] at hc
    obtain ⟨hokx, hc⟩ := hc
    split at hc
    · simp only [Bool.and_eq_true, decide_eq_true_eq] at hc
      obtain ⟨⟨rfl, h1⟩, h2⟩ := hc
      exact (Sim.of (sim_op (simE a _ c X xr h1).pe (simE b _ c X xr h2).pe) rfl).congr fun env h => by simp only [evE]
    · cases hc
  | .neg a, ex, c, X, xr, hc => by
    simp only [chkE, Bool.and_eq_true] at hc
    obtain ⟨hokx, hc⟩ := hc
    split at hc
    · exact (sim_neg (simE a _ c X xr hc).pe).congr fun env h => by simp only [evE]
    · cases hc
  | .cmp o a b, ex, c, X, xr, hc => by
    simp only [chkE, Bool.and_eq_true] at hc
    obtain ⟨hokx, hc⟩ := hc
    split at hc
    · simp only [Bool.and_eq_true, decide_eq_true_eq] at hc
      obtain ⟨⟨rfl, h1⟩, h2⟩ := hc
      exact (sim_cmp xr (simE a _ c X xr h1).pe (simE b _ c X xr h2).pe (okE h2)).congr fun env h => by simp only [evE]
    · cases hc
  | .chain o1 o2 a b d, ex, c, X, xr, hc => by
    simp only [chkE, Bool.and_eq_true] at hc
    obtain ⟨hokx, hc⟩ := hc
    split at hc
    · simp only [Bool.and_eq_true, decide_eq_true_eq] at hc
      obtain ⟨⟨⟨⟨rfl, rfl⟩, h1⟩, h2⟩, h3⟩ := hc
      exact (sim_chain xr (simE a _ c X xr h1).pe (simE b _ c X xr h2).pe (simE d _ c X xr h3).pe (okE h3)).congr fun env h => by simp only [evE]
    · cases hc
  | .and a b, ex, c, X, xr, hc => by
    simp only [chkE, Bool.and_eq_true] at hc
    obtain ⟨hokx, hc⟩ := hc
    split at hc
    · rename_i x y pos
      simp only [Bool.and_eq_true] at hc
      have sa := simE a _ c X xr hc.1.2
      have sb := simE b _ c X xr hc.2
      have P : PE X (.BoolOp .And [x, y] pos) (tEv X.K (andF (evE g (run g k) a) (evE g (run g k) b))) := and_pe sa.pe (pe_one sb.pe)
      have W : PW X (.BoolOp .And [x, y] pos) (tTv X.K (andF (evE g (run g k) a) (evE g (run g k) b))) := and_pw (sa.pt hc.1.1.1) (pw_and1 (sb.pt hc.1.1.2))
      exact Sim.congr ⟨P, fun _ => W.pt, fun _ => W⟩ fun env h => by simp only [evE, andF]
    · rename_i x y z r pos
      simp only [Bool.and_eq_true] at hc
      have sa := simE a _ c X xr hc.1.2
      have sb := simE b _ c X xr hc.2
      have P : PE X (.BoolOp .And (x :: y :: z :: r) pos) (tEv X.K (andF (evE g (run g k) a) (evE g (run g k) b))) := and_pe sa.pe sb.pe
      have W : PW X (.BoolOp .And (x :: y :: z :: r) pos) (tTv X.K (andF (evE g (run g k) a) (evE g (run g k) b))) := and_pw (sa.pt hc.1.1) (sb.pw rfl)
      exact Sim.congr ⟨P, fun _ => W.pt, fun _ => W⟩ fun env h => by simp only [evE, andF]
    · cases hc
  | .or a b, ex, c, X, xr, hc => by
    simp only [chkE, Bool.and_eq_true] at hc
    obtain ⟨hokx, hc⟩ := hc
    split at hc
    · rename_i x y pos
      simp only [Bool.and_eq_true] at hc
      have sa := simE a _ c X xr hc.1.2
      have sb := simE b _ c X xr hc.2
      have P : PE X (.BoolOp .Or [x, y] pos) (tEv X.K (orF (evE g (run g k) a) (evE g (run g k) b))) := or_pe sa.pe (pe_one sb.pe)
      have W : PW X (.BoolOp .Or [x, y] pos) (tTv X.K (orF (evE g (run g k) a) (evE g (run g k) b))) := or_pw (sa.pt hc.1.1.1) (pw_or1 (sb.pt hc.1.1.2))
      exact Sim.congr ⟨P, fun _ => W.pt, fun _ => W⟩ fun env h => by simp only [evE, orF]
    · rename_i x y z r pos
      simp only [Bool.and_eq_true] at hc
      have sa := simE a _ c X xr hc.1.2
      have sb := simE b _ c X xr hc.2
      have P : PE X (.BoolOp .Or (x :: y :: z :: r) pos) (tEv X.K (orF (evE g (run g k) a) (evE g (run g k) b))) := or_pe sa.pe sb.pe
      have W : PW X (.BoolOp .Or (x :: y :: z :: r) pos) (tTv X.K (orF (evE g (run g k) a) (evE g (run g k) b))) := or_pw (sa.pt hc.1.1) (sb.pw rfl)
      exact Sim.congr ⟨P, fun _ => W.pt, fun _ => W⟩ fun env h => by simp only [evE, orF]
    · cases hc
  | .not a, ex, c, X, xr, hc => by
    simp only [chkE, Bool.and_eq_true] at hc
    obtain ⟨hokx, hc⟩ := hc
    split at hc
    · simp only [Bool.and_eq_true] at hc
      have sa := simE a _ c X xr hc.2
      exact (sim_not sa.pe sa.pt hc.1).congr fun env h => by simp only [evE]
    · cases hc
  | .ife d a b, ex, c, X, xr, hc => by
    simp only [chkE, Bool.and_eq_true] at hc
    obtain ⟨hokx, hc⟩ := hc
    split at hc
    · simp only [Bool.and_eq_true] at hc
      exact (sim_ife ((simE d _ c X xr hc.1.1.1).pt hc.1.1.2) (simE a _ c X xr hc.1.2).pe (simE b _ c X xr hc.2).pe).congr fun env h => by simp only [evE]
    · cases hc
  | .idx a i, ex, c, X, xr, hc => by
    simp only [chkE, Bool.and_eq_true] at hc
    obtain ⟨hokx, hc⟩ := hc
    split at hc
    · simp only [Bool.and_eq_true] at hc
      exact (Sim.of (sim_idx (simE a _ c X xr hc.1).pe (simE i _ c X xr hc.2).pe (okE hc.2)) rfl).congr fun env h => by simp only [evE]
    · cases hc
  | .slice a lo hi, ex, c, X, xr, hc => by
    simp only [chkE, Bool.and_eq_true] at hc
    obtain ⟨hokx, hc⟩ := hc
    split at hc
    · rename_i x l u p2 pos
      simp only [Bool.and_eq_true] at hc
      obtain ⟨⟨h1, h2⟩, h3⟩ := hc
      have pl : PO X l (tPo X.K lo.isNon (evE g (run g k) lo)) := po_of (fun y hy => by
        subst hy
        simp only [Bool.and_eq_true, Bool.not_eq_true'] at h2
        exact ⟨h2.1, (simE lo y c X xr h2.2).pe⟩) (fun hy => by subst hy; exact h2)
      have pu : PO X u (tPo X.K hi.isNon (evE g (run g k) hi)) := po_of (fun y hy => by
        subst hy
        simp only [Bool.and_eq_true, Bool.not_eq_true'] at h3
        exact ⟨h3.1, (simE hi y c X xr h3.2).pe⟩) (fun hy => by subst hy; exact h3)
      exact (Sim.of (sim_slice (simE a _ c X xr h1).pe pl pu) rfl).congr fun env h => by simp only [evE]
    · cases hc
  | .call f es, ex, c, X, xr, hc => by
    simp only [chkE, Bool.and_eq_true] at hc
    obtain ⟨hokx, hc⟩ := hc
    split at hc
    · simp only [Bool.and_eq_true, decide_eq_true_eq] at hc
      obtain ⟨⟨⟨⟨rfl, h1⟩, h2⟩, h3⟩, h4⟩ := hc
      exact (Sim.of (sim_call xr h1 h2 h3 h4 (pa_all es _ c X (simAll es) xr h4)) rfl).congr fun env h => by simp only [evE]
    · cases hc
  | .bi f es, ex, c, X, xr, hc => by
    simp only [chkE, Bool.and_eq_true] at hc
    obtain ⟨hokx, hc⟩ := hc
    split at hc
    · rename_i x p xs pos
      simp only [Bool.and_eq_true, decide_eq_true_eq] at hc
      obtain ⟨⟨⟨rfl, h1⟩, h2⟩, h3⟩ := hc
      cases xs with
      | nil => cases h2
      | cons y ys => exact (Sim.of (sim_bi xr h1 h3 (pa_all es _ c X (simAll es) xr h3)) rfl).congr fun env h => by simp only [evE]
    · cases hc
  | .isi a t, ex, c, X, xr, hc => by
    simp only [chkE, Bool.and_eq_true] at hc
    obtain ⟨hokx, hc⟩ := hc
    split at hc
    · simp only [Bool.and_eq_true, decide_eq_true_eq] at hc
      obtain ⟨⟨⟨⟨rfl, h1⟩, rfl⟩, h2⟩, h3⟩ := hc
      exact (Sim.of (sim_isi xr h1 h2 (okE h3) (simE a _ c X xr h3).pe) rfl).congr fun env h => by simp only [evE]
    · cases hc
  | .meth m o es, ex, c, X, xr, hc => by
    simp only [chkE, Bool.and_eq_true] at hc
    obtain ⟨hokx, hc⟩ := hc
    split at hc
    · simp only [Bool.and_eq_true, decide_eq_true_eq] at hc
      obtain ⟨⟨⟨⟨⟨rfl, h1⟩, h2⟩, h3⟩, h4⟩, h5⟩ := hc
      exact (Sim.of (sim_meth xr h1 h2 h3 (simE o _ c X xr h4).pe h5 (pa_all es _ c X (simAll es) xr h5)) rfl).congr fun env h => by simp only [evE]
    · cases hc
  | .comp elt t kk es cs own, ex, c, X, xr, hc => by
    obtain ⟨ex2, gen, scope, pos, tt, rfl, p1, p2, p3⟩ := comp_core xr hc (simAll es) (simAll cs) (simE elt)
    exact Sim.of (p1.imp p3) rfl
  | .lrng kk es, ex, c, X, xr, hc => by
    simp only [chkE, Bool.and_eq_true] at hc
    obtain ⟨hokx, hc⟩ := hc
    split at hc
    · simp only [Bool.and_eq_true, decide_eq_true_eq] at hc
      obtain ⟨⟨rfl, h1⟩, h2⟩ := hc
      rcases chkR_of h2 with ⟨rfl, p, x, p2, rfl, h3, h4⟩ | ⟨rfl, p, x, y, p2, rfl, h3, h4⟩
      · refine (Sim.of (sim_lr1 (es := es) xr h1 h3 h4 fun e he => ?_) rfl).congr fun env h => by simp only [evE]
        have hx : chkE g c x e = true := by
          rw [he] at h4
          simp only [chkEs, Bool.and_eq_true] at h4
          exact h4.1
        exact (simAll es e (by rw [he]; exact List.mem_singleton.mpr rfl) _ c X xr hx).pe
      · have ih := simAll (g := g) (k := k) es
        cases es with
        | nil => simp [chkEs] at h4
        | cons e1 es =>
          cases es with
          | nil => simp [chkEs] at h4
          | cons e2 es =>
            cases es with
            | cons _ _ => simp [chkEs] at h4
            | nil =>
              simp only [chkEs, Bool.and_eq_true] at h4
              exact (Sim.of (sim_lr2 xr h1 h3 (okE h4.1) (okE h4.2.1) (ih e1 (by simp) _ c X xr h4.1).pe (ih e2 (by simp) _ c X xr h4.2.1).pe) rfl).congr fun env h => by simp only [evE]
    · cases hc
theorem simAll {g : Mod} {k : Nat} : ∀ (es : List E), SimL g k es
  | [] => fun e he => by simp at he
  | e :: es => fun a ha => by
    rcases List.mem_cons.mp ha with z | z
    · rw [z]; exact simE e
    · exact simAll es a z
end
end
end MP
namespace MP
open PySem PySem.Spec PyProof.Rows L2
/-- how the text stores a comprehension -/
def compAsg (sc : Scope) (tx ex : Expr) : Bool := match tx with
  | .Name y py => match ex with
    | .ListComp _ _ scope cpos => (decide (sc.kind = .function) && decide (sc.names.lookup y = some .local) && (py.line == cpos.line) && !(scope.names.any fun (n, k) => n == y && (k == .local || k == .cell))) || decide (sc.names.lookup y = some .cell)
    | _ => false
  | _ => false
def locN (c : Cc) (x : Str) : Bool := decide (c.sc.names.lookup x = some .local) || (decide (c.sc.names.lookup x = some .cell) && c.fn x)
mutual
def chkS (g : Mod) (c : Cc) (st : Stmt) (s : S) : Bool := match s with
  | .asg t e => match st with
    | .Assign [tx] ex pos => chkE g c ex e && okX tx && chkT c tx t && ((notComp ex && (notTup tx || notTup ex)) || compAsg c.sc tx ex)
    | _ => false
  | .setIx o i e => match st with
    | .Assign [.Subscript ox ix _] ex _ => chkE g c ex e && chkE g c ox o && chkE g c ix i
    | _ => false
  | .aug i o e => match st with
    | .AugAssign (.Name x _) op ex _ => decide (op = bop o) && decide (c.N[i]? = some x) && locN c x && chkE g c ex e
    | _ => false
  | .ex e => match st with
    | .Expr ex _ => chkE g c ex e && notComp ex
    | _ => false
  | .ret e => match st with
    | .Return (some ex) _ => chkE g c ex e
    | _ => false
  | .retN => match st with
    | .Return none _ => true
    | _ => false
  | .ite d a b => match st with
    | .If x xs ys _ => chkE g c x d && tOk x && chkSs g c xs a && chkSs g c ys b
    | _ => false
  | .for_ t k es body => match st with
    | .For tx iter xs [] _ => okX tx && okX iter && chkT c tx t && chkI c k iter (fun xs => chkEs g c xs es) && chkSs g c xs body
    | _ => false
  | .while_ d body => match st with
    | .While x xs [] _ => chkE g c x d && tOk x && chkSs g c xs body
    | _ => false
  | .brk => match st with
    | .Break _ => true
    | _ => false
  | .cont => match st with
    | .Continue _ => true
    | _ => false
  | .pass => match st with
    | .Pass _ => true
    | _ => false
def chkSs (g : Mod) (c : Cc) (sts : List Stmt) (ss : List S) : Bool := match ss with
  | [] => match sts with
    | [] => true
    | _ => false
  | s :: ss => match sts with
    | st :: sts => chkS g c st s && chkSs g c sts ss
    | [] => false
end
def PostS (K : Fra) (φ : List Addr) (H : Hp) (D : Ends) (o : Out) : Prop := ∀ φ' H' σ', Stp φ H φ' H' → Ew K φ' o.h o.env σ' H' → match o.fl with
  | .nx => D.nx σ' H'
  | .rt r => ∀ v, RV K φ' H' v r → D.rt v H'
  | .bk => D.bk σ' H'
  | .ct => D.ct σ' H'
def tS (K : Fra) (ev : Env → MH → Option Out) : TS := fun D σ H => ∃ φ h env o, Ew K φ h env σ H ∧ ev env h = some o ∧ PostS K φ H D o
section
variable {X : Cx} {K : Fra} {φ φ' φ1 φ2 : List Addr} {H H' H1 H2 : Hp} {h h' h1 h2 : MH} {v : V} {m : MV} {env : Env} {σ : L2.St}
theorem PostS.on {D : Ends} {o : Out} (p : PostS K φ H D o) (s : Stp φ H φ1 H1) : PostS K φ1 H1 D o := fun φ' H' σ' s' w => p φ' H' σ' (s.trans s') w
theorem swaps_no {e : Expr} {t : Option Expr} {l : Nat} {env : PySem.Env} (h : notComp e = true) : swapsWith e t l env = pure false := by
  cases e <;> first | rfl | cases h
theorem swaps_sub {e o i : Expr} {p : Pos} {l : Nat} {env : PySem.Env} : swapsWith e (some (.Subscript o i p)) l env = pure false := by
  cases e <;> rfl
theorem stores_no {tx ex : Expr} {env : PySem.Env} (h : (notTup tx || notTup ex) = true) : swappedStores [tx] ex env = pure none := by
  unfold swappedStores
  cases ex <;> cases tx <;> first | rfl | cases h
theorem swaps_cell {elt : Expr} {gs : List Comprehension} {scope : Scope} {pos py : Pos} {y : Str} {l : Nat} {env : PySem.Env} (hy : env.scope.names.lookup y = some .cell) : swapsWith (.ListComp elt gs scope pos) (some (.Name y py)) l env = pure false := by
  have ky : env.kindOf y = some .cell := hy
  unfold swapsWith
  simp only [ky]
  have : (some NameKind.cell == some NameKind.local) = false := by decide
  rw [this]
  simp
/-- a value is laid into targets -/
theorem asg_go {t : Tg} {ev : Env → MH → R} {D : Ends} {tt : TE} (imp : ∀ σ H Q, tEv K ev σ H Q → tt σ H Q) (hh : tS K (fun env h => (ev env h).bind fun x => (bindT t (gc h x).1 env).map fun env' => ⟨.nx, env', (gc h x).2⟩) D σ H) : tAsg tt (tTg K t) D σ H := by
  obtain ⟨φ, hp, env, o, w, e, q⟩ := hh
  simp only [Option.bind_eq_some_iff, Option.map_eq_some_iff] at e
  obtain ⟨x, e1, env', e2, rfl⟩ := e
  refine imp σ H _ (go w e1 fun φ1 H1 v1 s1 w1 r1 => ?_)
  obtain ⟨φ2, s2, hr2, rv2⟩ := gc_ok w.hr s1 w1.hr r1
  exact ⟨φ2, (gc hp x).1, env, env', rv2, w.er.mono (s2.wk w.hr.dom), e2, fun σ' er _ => q φ2 H1 σ' s2 (er.ew hr2)⟩
theorem sim_asg {g : Mod} {k : Nat} {c : Cc} (xr : XR g k X c) {t : Tg} {e : E} {tx ex : Expr} {pos : Pos} (he : chkE g c ex e = true) (hok : okX tx = true) (ht : chkT c tx t = true) (hx : (notComp ex && (notTup tx || notTup ex) || compAsg c.sc tx ex) = true) :
    PS X (.Assign [tx] ex pos) (tS X.K (evS g (run g k) (.asg t e))) := by
  have ev : evS g (run g k) (.asg t e) = fun env h => (evE g (run g k) e env h).bind fun x => (bindT t (gc h x).1 env).map fun env' => ⟨.nx, env', (gc h x).2⟩ := by
    funext env h; simp only [evS]
  rw [ev]
  have hP := (simE e ex c X xr he).pe
  have hG := simT xr t tx ht
  have h1 : (assignEach [tx] X.env).map (·.2) = [assign tx X.env] := by rw [aE_of hok]; rfl
  have plain : swapsWithSole [tx] ex pos.line X.env = pure false → swappedStores [tx] ex X.env = pure none → PS X (.Assign [tx] ex pos) (tS X.K (fun env h => (evE g (run g k) e env h).bind fun x => (bindT t (gc h x).1 env).map fun env' => ⟨.nx, env', (gc h x).2⟩)) := fun a b =>
    (ps_asg hP hG a b h1).imp fun D σ H hh => asg_go (fun _ _ _ z => z) hh
  simp only [Bool.or_eq_true, Bool.and_eq_true] at hx
  rcases hx with ⟨hc, hn⟩ | hc
  · exact plain (swaps_no hc) (stores_no (by rw [Bool.or_eq_true]; exact hn))
  · unfold compAsg at hc
    split at hc
    · rename_i y py
      split at hc
      · rename_i elt gens scope cpos
        simp only [Bool.or_eq_true, Bool.and_eq_true, decide_eq_true_eq, Bool.not_eq_true'] at hc
        rcases hc with ⟨⟨⟨hf, hl⟩, hp⟩, ha⟩ | hcell
        · -- through the comprehension's own frame
          cases e with
          | comp el tg kk es cs own =>
            obtain ⟨ex2, gen, scope', pos', tt, e0, p1, p2, p3⟩ := comp_core xr he (simAll es) (simAll cs) (simE el)
            obtain ⟨i, rfl, hi⟩ : ∃ i, t = .nm i ∧ c.N[i]? = some y := by
              cases t with
              | tup ts => unfold chkT at ht; cases ht
              | nm i =>
                unfold chkT at ht
                simp only [Bool.and_eq_true, decide_eq_true_eq] at ht
                exact ⟨i, rfl, ht.1⟩
            refine (p2 (i := i) (by rw [xr.hN]; exact hi) (by rw [xr.sc]; exact hl) (sw_true (by rw [xr.sc]; exact hf) (by rw [xr.sc]; exact hl) hp ha)).imp fun D σ H hh => ?_
            have z := asg_go p3 hh
            obtain ⟨φ, hp', env, o, w, e1, q⟩ := hh
            simp only [Option.bind_eq_some_iff, Option.map_eq_some_iff] at e1
            obtain ⟨x, e1, env', e2, rfl⟩ := e1
            simp only [bindT] at e2
            cases e2
            refine p3 σ H _ (go w e1 fun φ1 H1 v1 s1 w1 r1 => ?_)
            obtain ⟨φ2, s2, hr2, rv2⟩ := gc_ok w.hr s1 w1.hr r1
            exact q φ2 H1 _ s2 (((w.er.mono (s2.wk w.hr.dom)).set rv2).ew hr2)
          | _ => simp [chkE] at he
        · exact plain (swaps_cell (l := pos.line) (by rw [xr.sc]; exact hcell)) (stores_no rfl)
      · cases hc
    · cases hc
theorem sub_of {o i : Expr} {pos : Pos} {env : PySem.Env} (h : okX i = true) : ∀ v, assign (.Subscript o i pos) env v = (do
      let ov ← holding [v] (eval o env)
      let iv ← holding [v, ov] (eval i env)
      standAt pos
      holding [v, ov, iv] (setItem ov iv v)
      release [v, ov, iv] []) := by
  intro v
  cases i <;> first | rfl | cases h
theorem sim_setIx {g : Mod} {k : Nat} {o i e : E} {ox ix ex : Expr} {p pos : Pos} (he : PE X ex (tEv X.K (evE g (run g k) e))) (ho : PE X ox (tEv X.K (evE g (run g k) o))) (hi : PE X ix (tEv X.K (evE g (run g k) i))) (hok : okX ix = true) :
    PS X (.Assign [.Subscript ox ix p] ex pos) (tS X.K (evS g (run g k) (.setIx o i e))) := by
  refine (ps_asg he (pg_sub ho hi setR (sub_of hok)) (show swapsWith ex (some (.Subscript ox ix p)) pos.line X.env = pure false from swaps_sub) (stores_no rfl) rfl).imp fun D σ H hh => ?_
  obtain ⟨φ, hp, env, r, w, e0, q⟩ := hh
  simp only [evS, Option.bind_eq_some_iff, Option.map_eq_some_iff] at e0
  obtain ⟨x, e1, y, e2, z, e3, h', e4, rfl⟩ := e0
  refine go w e1 fun φ1 H1 v1 s1 w1 r1 => go w1 e2 fun φ2 H2 v2 s2 w2 r2 => go w2 e3 fun φ3 H3 v3 s3 w3 r3 => ?_
  refine ⟨φ3, z.2, y.1, z.1, x.1, h', w3.hr, RV.mono s3 w2.hr.dom _ _ r2, r3, RV.mono (s2.trans s3) w1.hr.dom _ _ r1, e4, fun H4 s4 hr4 => ?_⟩
  have s14 := ((s1.trans s2).trans s3).trans s4
  obtain ⟨φ5, s5, hr5, _⟩ := gc_ok (v := .non) (r := (.non, h')) w.hr s14 hr4 rfl
  exact q φ5 H4 σ s5 ((w.er.mono (s5.wk w.hr.dom)).ew hr5)
def rAu (K : Fra) (o : BOp) : TIp := fun x y H Q => ∃ φ h a b r, HR K φ h H ∧ RV K φ H x a ∧ RV K φ H y b ∧ augM o h a b = some r ∧ Post K φ H Q r
theorem ipM (o : BOp) : PIp X (bop o) (rAu X.K o) := by
  intro pins s σ H x y v u Q I rx ry hh
  obtain ⟨φ, h, a, b, r, hr, ha, hb, e, q⟩ := hh
  unfold augM at e
  split at e
  · cases e; cases ha; cases hb
    exact ip_add pins s σ H _ _ v u Q I rx ry ⟨_, _, rfl, rfl, q.now hr rfl⟩
  · cases e; cases ha; cases hb
    exact ip_sub pins s σ H _ _ v u Q I rx ry ⟨_, _, rfl, rfl, q.now hr rfl⟩
  · rename_i i j
    split at e
    · rename_i hz
      cases e
      obtain ⟨rfl, za⟩ := ha
      obtain ⟨rfl, zb⟩ := hb
      exact iop_add_str pins s σ H _ _ v u Q I rx ry ⟨i, j, rfl, rfl, hz, q.now hr ⟨rfl, by
          show (i ++ j).cps.size ≤ _
          have : (i ++ j).cps.size = i.cps.size + j.cps.size := by show (i.cps ++ j.cps).size = _; simp
          rw [this]; exact hz⟩⟩
    · cases e
  · cases e
theorem sim_aug {g : Mod} {k : Nat} {c : Cc} (xr : XR g k X c) {i : Nat} {o : BOp} {e : E} {x : Str} {ex : Expr} {p pos : Pos} (hi : c.N[i]? = some x) (hl : locN c x = true) (he : PE X ex (tEv X.K (evE g (run g k) e))) :
    PS X (.AugAssign (.Name x p) (bop o) ex pos) (tS X.K (evS g (run g k) (.aug i o e))) := by
  simp only [locN, Bool.or_eq_true, Bool.and_eq_true, decide_eq_true_eq] at hl
  have hx : L2.Loc X.env.scope x := by
    rw [xr.sc]
    rcases hl with h2 | h2
    · exact .inl h2
    · exact .inr h2.1
  have hf : X.fn x = true ∨ X.env.scope.names.lookup x = some .local := by
    rcases hl with h2 | h2
    · exact .inr (by rw [xr.sc]; exact h2)
    · exact .inl (by rw [xr.fn]; exact h2.2)
  refine (ps_aug xr.nd (by rw [xr.hN]; exact hi) hx he (ipM o) hf).imp fun D σ H hh => ?_
  obtain ⟨φ, hp, env, r, w, e0, q⟩ := hh
  simp only [evS] at e0
  split at e0
  · rename_i m hm
    simp only [Option.bind_eq_some_iff, Option.map_eq_some_iff] at e0
    obtain ⟨y, e1, z, e2, rfl⟩ := e0
    obtain ⟨u, hu, ru⟩ := w.at_ i m hm
    refine ⟨u, hu, go w e1 fun φ1 H1 v1 s1 w1 r1 => ⟨φ1, y.2, m, y.1, z, w1.hr, RV.mono s1 w.hr.dom _ _ ru, r1, e2, fun φ2 H2 v2 s2 hr2 rv2 => ?_⟩⟩
    obtain ⟨φ3, s3, hr3, rv3⟩ := gc_ok w.hr (s1.trans s2) hr2 rv2
    exact q φ3 H2 _ s3 (((w.er.mono (s3.wk w.hr.dom)).set rv3).ew hr3)
  · cases e0
theorem sim_exp {g : Mod} {k : Nat} {e : E} {ex : Expr} {pos : Pos} (hn : notComp ex = true) (he : PE X ex (tEv X.K (evE g (run g k) e))) : PS X (.Expr ex pos) (tS X.K (evS g (run g k) (.ex e))) := by
  refine (ps_expr he (swaps_no hn)).imp fun D σ H hh => ?_
  obtain ⟨φ, hp, env, r, w, e0, q⟩ := hh
  simp only [evS, Option.map_eq_some_iff] at e0
  obtain ⟨x, e1, rfl⟩ := e0
  refine go w e1 fun φ1 H1 v1 s1 w1 r1 => ?_
  obtain ⟨φ3, s3, hr3, _⟩ := gc_ok (v := .non) (r := (.non, x.2)) w.hr s1 w1.hr rfl
  exact q φ3 H1 σ s3 ((w.er.mono (s3.wk w.hr.dom)).ew hr3)
theorem sim_ret {g : Mod} {k : Nat} {e : E} {ex : Expr} {pos : Pos} (he : PE X ex (tEv X.K (evE g (run g k) e))) : PS X (.Return (some ex) pos) (tS X.K (evS g (run g k) (.ret e))) := by
  refine (ps_ret he).imp fun D σ H hh => ?_
  obtain ⟨φ, hp, env, r, w, e0, q⟩ := hh
  simp only [evS, Option.map_eq_some_iff] at e0
  obtain ⟨x, e1, rfl⟩ := e0
  refine go w e1 fun φ1 H1 v1 s1 w1 r1 => ?_
  obtain ⟨φ3, s3, hr3, rv3⟩ := gc_ok w.hr s1 w1.hr r1
  exact q φ3 H1 σ s3 ((w.er.mono (s3.wk w.hr.dom)).ew hr3) v1 rv3
/-- a test, what its making needed let go -/
theorem tst_go {g : Mod} {k : Nat} {c : E} {r : MV × MH} {Q : Bool → Hp → Prop} (w : Ew K φ h env σ H) (e : tstE g (run g k) c env h = some r) (q : ∀ b φ1 H1, r.1 = .bl b → Stp φ H φ1 H1 → Ew K φ1 r.2 env σ H1 → Q b H1) : tTv K (evE g (run g k) c) σ H Q := by
  simp only [tstE, Option.bind_eq_some_iff, Option.map_eq_some_iff] at e
  obtain ⟨x, e1, b, e2, rfl⟩ := e
  refine goT w e1 e2 fun φ1 H1 s1 w1 => ?_
  obtain ⟨φ3, s3, hr3, _⟩ := gc_ok (v := .bl b) (r := (.bl b, x.2)) w.hr s1 w1.hr rfl
  exact q b φ3 H1 (gc_flat (by unfold MV.lt; exact True.intro) (fun p z => nomatch z)) s3 ((w.er.mono (s3.wk w.hr.dom)).ew hr3)
/-- the state of a for -/
structure ForSt (K : Fra) (φ1 : List Addr) (H1 : Hp) (st : Its) (t : Tg) (body : Env → MH → Option Out) (o : Out) (i : Nat) (σ : L2.St) (H : Hp) : Prop where
  ex : ∃ φ2 h2 env2, Stp φ1 H1 φ2 H ∧ Ew K φ2 h2 env2 σ H ∧ forL t st body (st.items.drop i) env2 h2 = some o
theorem sim_for {g : Mod} {k : Nat} {c : Cc} (xr : XR g k X c) {tx iter : Expr} {xs : List Stmt} {pos : Pos} {t : Tg} {kk : IK} {es : List E} {body : List S} (hpi : PI X tx iter (tI X.K fun env h => (evEs g (run g k) es env h).bind fun r => itsG kk h r)) (hok : okX iter = true) (ht : PG X tx (tTg X.K t))
    (hb : PSs X xs (tS X.K (evSs g (run g k) body))) : PS X (.For tx iter xs [] pos) (tS X.K (evS g (run g k) (.for_ t kk es body))) := by
  refine (ps_for (by rw [xr.xe]; exact PassesOwn.never) xr.calm hpi ht hb (folded_of hok)).imp fun D σ H hh => ?_
  obtain ⟨φ, hp, env, o, w, e0, q⟩ := hh
  simp only [evS, evI, Option.bind_eq_some_iff] at e0
  obtain ⟨st, ⟨r, f1, f2⟩, e2⟩ := e0
  refine ⟨φ, hp, env, st, w, by show (evEs g (run g k) es env hp).bind _ = _; rw [f1]; exact f2, fun φ1 H1 J s1 hr1 wm => ?_⟩
  obtain ⟨hzl, G, Y, wk, wG, wY⟩ := wm
  have w1 : Ew X.K φ1 st.2 env σ H1 := w.step s1 hr1
  refine for_it wk (ForSt X.K φ1 H1 st.1 t (evSs g (run g k) body) o) ⟨φ1, st.2, env, .refl, w1, e2⟩ (fun i σ2 H2 hi p => ?_) (fun i x σ2 H2 H3 hi p y => ?_) fun σ2 H2 p => ?_
  · obtain ⟨φ2, h2, env2, p1, p2, p3⟩ := p.ex
    refine wG φ2 h2 H2 p1 p2.hr ?_
    cases hd : st.1.items.drop i with
    | nil =>
      rw [hd] at p3
      simp only [forL] at p3
      split at p3
      · assumption
      · cases p3
    | cons z zs =>
      rw [hd] at p3
      simp only [forL] at p3
      split at p3
      · assumption
      · cases p3
  · obtain ⟨φ2, h2, env2, p1, p2, p3⟩ := p.ex
    have hd : st.1.items.drop i = st.1.items[i] :: st.1.items.drop (i + 1) := List.drop_eq_getElem_cons hi
    rw [hd] at p3
    simp only [forL] at p3
    split at p3
    · rename_i hst
      simp only [Option.bind_eq_some_iff] at p3
      obtain ⟨env1, f3, b, f4, f5⟩ := p3
      obtain ⟨m, g1, g2, g3, g4⟩ := wY i H2 x H3 φ2 h2 hi p1 p2.hr hst y
      rw [List.getElem?_eq_getElem hi] at g1
      cases g1
      have p1' := p1.trans g3
      refine ⟨φ2, st.1.items[i], env2, env1, g2, p2.er.mono (g3.wk p2.hr.dom), f3, fun σ3 er3 _ => ?_⟩
      refine ⟨φ2, h2, env1, b, er3.ew g4, f4, fun φ4 H4 σ4 s4 w4 => ?_⟩
      cases hfl : b.fl with
      | nx =>
        rw [hfl] at f5
        exact ⟨φ4, b.h, b.env, p1'.trans s4, w4, f5⟩
      | ct =>
        rw [hfl] at f5
        exact ⟨φ4, b.h, b.env, p1'.trans s4, w4, f5⟩
      | bk =>
        rw [hfl] at f5
        cases f5
        exact q φ4 H4 σ4 ((s1.trans p1').trans s4) w4
      | rt r =>
        rw [hfl] at f5
        cases f5
        have z := q φ4 H4 σ4 ((s1.trans p1').trans s4) w4
        rw [hfl] at z
        exact z
    · cases p3
  · obtain ⟨φ2, h2, env2, p1, p2, p3⟩ := p.ex
    rw [List.drop_length] at p3
    simp only [forL] at p3
    split at p3
    · cases p3
      exact q φ2 H2 σ2 (s1.trans p1) p2
    · cases p3
theorem sim_while {g : Mod} {k : Nat} {c : Cc} (xr : XR g k X c) {x : Expr} {xs : List Stmt} {pos : Pos} {d : E} {body : List S} (hc : PT X x (tTv X.K (evE g (run g k) d))) (hb : PSs X xs (tS X.K (evSs g (run g k) body))) :
    PS X (.While x xs [] pos) (tS X.K (evS g (run g k) (.while_ d body))) := by
  refine (ps_while (by rw [xr.xe]; exact PassesOwn.never) hc hb).imp fun D σ H hh => ?_
  obtain ⟨φ, hp, env, o, w, e0, q⟩ := hh
  simp only [evS] at e0
  refine ⟨fun n σ2 H2 => ∃ φ2 h2 env2, Stp φ H φ2 H2 ∧ Ew X.K φ2 h2 env2 σ2 H2 ∧ whileL (tstE g (run g k) d) (evSs g (run g k) body) n env2 h2 = some o, ⟨WLIM, φ, hp, env, .refl, w, e0⟩, fun n σ2 H2 p => ?_⟩
  obtain ⟨φ2, h2, env2, p1, p2, p3⟩ := p
  cases n with
  | zero => simp only [whileL] at p3; cases p3
  | succ n =>
    simp only [whileL, Option.bind_eq_some_iff] at p3
    obtain ⟨b, f1, f2⟩ := p3
    refine tst_go p2 f1 fun bb φ3 H3 eb s3 w3 => ?_
    rw [eb] at f2
    cases bb with
    | false =>
      rw [if_neg Bool.false_ne_true]
      cases f2
      exact q φ3 H3 σ2 (p1.trans s3) w3
    | true =>
      rw [if_pos rfl]
      simp only [Option.bind_eq_some_iff] at f2
      obtain ⟨ob, f3, f4⟩ := f2
      refine ⟨fun σ' H' => ∃ φ2 h2 env2, Stp φ H φ2 H' ∧ Ew X.K φ2 h2 env2 σ' H' ∧ whileL (tstE g (run g k) d) (evSs g (run g k) body) n env2 h2 = some o, fun σ' H' z => ⟨n, Nat.lt_succ_self n, z⟩, φ3, b.2, env2, ob, w3, f3, fun φ4 H4 σ4 s4 w4 => ?_⟩
      cases hfl : ob.fl with
      | nx =>
        rw [hfl] at f4
        exact ⟨φ4, ob.h, ob.env, (p1.trans s3).trans s4, w4, f4⟩
      | ct =>
        rw [hfl] at f4
        exact ⟨φ4, ob.h, ob.env, (p1.trans s3).trans s4, w4, f4⟩
      | bk =>
        rw [hfl] at f4
        cases f4
        exact q φ4 H4 σ4 ((p1.trans s3).trans s4) w4
      | rt r =>
        rw [hfl] at f4
        cases f4
        have z := q φ4 H4 σ4 ((p1.trans s3).trans s4) w4
        rw [hfl] at z
        exact z
theorem sim_if {g : Mod} {k : Nat} {x : Expr} {xs ys : List Stmt} {pos : Pos} {d : E} {a b : List S} (hc : PT X x (tTv X.K (evE g (run g k) d))) (ha : PSs X xs (tS X.K (evSs g (run g k) a))) (hb : PSs X ys (tS X.K (evSs g (run g k) b))) :
    PS X (.If x xs ys pos) (tS X.K (evS g (run g k) (.ite d a b))) := by
  refine (ps_if hc ha hb).imp fun D σ H hh => ?_
  obtain ⟨φ, hp, env, o, w, e0, q⟩ := hh
  simp only [evS, Option.bind_eq_some_iff] at e0
  obtain ⟨r, f1, f2⟩ := e0
  refine tst_go w f1 fun bb φ3 H3 eb s3 w3 => ?_
  rw [eb] at f2
  cases bb with
  | false =>
    rw [if_neg Bool.false_ne_true]
    exact ⟨φ3, r.2, env, o, w3, f2, q.on s3⟩
  | true =>
    rw [if_pos rfl]
    exact ⟨φ3, r.2, env, o, w3, f2, q.on s3⟩
mutual
theorem simS {g : Mod} {k : Nat} {c : Cc} (xr : XR g k X c) : ∀ (s : S) (st : Stmt), chkS g c st s = true → PS X st (tS X.K (evS g (run g k) s))
  | .asg t e, st, hc => by
    unfold chkS at hc
    split at hc
    · simp only [Bool.and_eq_true] at hc
      exact sim_asg xr hc.1.1.1 hc.1.1.2 hc.1.2 hc.2
    · cases hc
  | .setIx o i e, st, hc => by
    unfold chkS at hc
    split at hc
    · simp only [Bool.and_eq_true] at hc
      exact sim_setIx (simE e _ c X xr hc.1.1).pe (simE o _ c X xr hc.1.2).pe (simE i _ c X xr hc.2).pe (okE hc.2)
    · cases hc
  | .aug i o e, st, hc => by
    unfold chkS at hc
    split at hc
    · simp only [Bool.and_eq_true, decide_eq_true_eq] at hc
      obtain ⟨⟨⟨rfl, h1⟩, h2⟩, h3⟩ := hc
      exact sim_aug xr h1 h2 (simE e _ c X xr h3).pe
    · cases hc
  | .ex e, st, hc => by
    unfold chkS at hc
    split at hc
    · simp only [Bool.and_eq_true] at hc
      exact sim_exp hc.2 (simE e _ c X xr hc.1).pe
    · cases hc
  | .ret e, st, hc => by
    unfold chkS at hc
    split at hc
    · exact sim_ret (simE e _ c X xr hc).pe
    · cases hc
  | .retN, st, hc => by
    unfold chkS at hc
    split at hc
    · refine ps_retN.imp fun D σ H hh => ?_
      obtain ⟨φ, hp, env, o, w, e0, q⟩ := hh
      simp only [evS] at e0
      cases e0
      exact q φ H σ .refl w .non rfl
    · cases hc
  | .ite d a b, st, hc => by
    unfold chkS at hc
    split at hc
    · simp only [Bool.and_eq_true] at hc
      exact sim_if ((simE d _ c X xr hc.1.1.1).pt hc.1.1.2) (simSs xr a _ hc.1.2) (simSs xr b _ hc.2)
    · cases hc
  | .for_ t kk es body, st, hc => by
    unfold chkS at hc
    split at hc
    · simp only [Bool.and_eq_true] at hc
      exact sim_for xr (pi_of xr hc.1.1.1.2 hc.1.2 (fun e x he hx => (simAll es e (by rw [he]; exact List.mem_singleton.mpr rfl) x c X xr hx).pe) (fun xs hx => pa_all es xs c X (simAll es) xr hx)) hc.1.1.1.2 (simT xr t _ hc.1.1.2) (simSs xr body _ hc.2)
    · cases hc
  | .while_ d body, st, hc => by
    unfold chkS at hc
    split at hc
    · simp only [Bool.and_eq_true] at hc
      exact sim_while xr ((simE d _ c X xr hc.1.1).pt hc.1.2) (simSs xr body _ hc.2)
    · cases hc
  | .brk, st, hc => by
    unfold chkS at hc
    split at hc
    · refine ps_break.imp fun D σ H hh => ?_
      obtain ⟨φ, hp, env, o, w, e0, q⟩ := hh
      simp only [evS] at e0
      cases e0
      exact q φ H σ .refl w
    · cases hc
  | .cont, st, hc => by
    unfold chkS at hc
    split at hc
    · refine ps_continue.imp fun D σ H hh => ?_
      obtain ⟨φ, hp, env, o, w, e0, q⟩ := hh
      simp only [evS] at e0
      cases e0
      exact q φ H σ .refl w
    · cases hc
  | .pass, st, hc => by
    unfold chkS at hc
    split at hc
    · refine ps_pass.imp fun D σ H hh => ?_
      obtain ⟨φ, hp, env, o, w, e0, q⟩ := hh
      simp only [evS] at e0
      cases e0
      exact q φ H σ .refl w
    · cases hc
theorem simSs {g : Mod} {k : Nat} {c : Cc} (xr : XR g k X c) : ∀ (ss : List S) (sts : List Stmt), chkSs g c sts ss = true → PSs X sts (tS X.K (evSs g (run g k) ss))
  | [], sts, hc => by
    cases sts with
    | cons _ _ => simp [chkSs] at hc
    | nil =>
      refine pss_nil.imp fun D σ H hh => ?_
      obtain ⟨φ, hp, env, o, w, e0, q⟩ := hh
      simp only [evSs] at e0
      cases e0
      exact q φ H σ .refl w
  | s :: ss, sts, hc => by
    cases sts with
    | nil => simp [chkSs] at hc
    | cons st sts =>
      simp only [chkSs, Bool.and_eq_true] at hc
      refine (pss_cons (simS xr s st hc.1) (simSs xr ss sts hc.2)).imp fun D σ H hh => ?_
      obtain ⟨φ, hp, env, o, w, e0, q⟩ := hh
      simp only [evSs, Option.bind_eq_some_iff] at e0
      obtain ⟨o1, f1, f2⟩ := e0
      refine ⟨φ, hp, env, o1, w, f1, fun φ1 H1 σ1 s1 w1 => ?_⟩
      cases hfl : o1.fl with
      | nx =>
        rw [hfl] at f2
        exact ⟨φ1, o1.h, o1.env, o, w1, f2, q.on s1⟩
      | rt r =>
        rw [hfl] at f2
        cases f2
        have z := q φ1 H1 σ1 s1 w1
        rw [hfl] at z
        exact z
      | bk =>
        rw [hfl] at f2
        cases f2
        have z := q φ1 H1 σ1 s1 w1
        rw [hfl] at z
        exact z
      | ct =>
        rw [hfl] at f2
        cases f2
        have z := q φ1 H1 σ1 s1 w1
        rw [hfl] at z
        exact z
end
end
end MP
namespace MP
open PySem PySem.Spec PyProof.Rows L2
section
variable {P : Program} {w : World} {K : Fra} {mg : Str → Option Value} {base : Heap} {g : Mod}
/-- what is known of a def behind the top -/
structure FnSt (K : Fra) (mg : Str → Option Value) (g : Mod) (f : Str) (i : FnI) : Prop where
  ex : ∃ (a : Addr) (fd : FuncData) (st : Stmt) (ps : List Str), mg f = some (.ref a) ∧ Fun K f f st a fd ∧ FnScope i.names ps (defScope st) ∧ ps.length = i.np ∧ Binds K fd ps [] ∧ chkSs g ⟨i.names, defScope st, fun _ => true⟩ (defBody st) i.body = true
structure ModSt (K : Fra) (mg : Str → Option Value) (g : Mod) : Prop where
  fns : ∀ f i, g.fns.lookup f = some i → FnSt K mg g f i
  cns : ∀ x m, g.cns.lookup x = some m → ∃ u w, mg x = some u ∧ RelV w u ∧ ∀ H, RV K [] H w m
  blt : ∀ x ∈ bltNames, mg x = none
theorem fn_step (M : ModSt K mg g) {k : Nat} {f : Str} {i : FnI} {a : Addr} {fd : FuncData} {st : Stmt} {ps : List Str} (ih : ∀ f i, g.fns.lookup f = some i → ∃ a fd ps, mg f = some (.ref a) ∧ PySem.W.keepIn K (.ref a) = true ∧ Binds K fd ps [] ∧ ps.length = i.np ∧ FnOk P w K mg base CX0 k a fd ps (spM K g k f))
    (F : Fun K f f st a fd) (e3 : FnScope i.names ps (defScope st)) (e4 : ps.length = i.np) (hf : g.fns.lookup f = some i) (e6 : chkSs g ⟨i.names, defScope st, fun _ => true⟩ (defBody st) i.body = true) :
    FnOk P w K mg base CX0 (k + 1) a fd ps (spM K g (k + 1) f) := by
  refine F.ok e3 (fun vs H Q E hh => ?_) fun cdv A outer s H vs Q E hr hh => ?_
  · obtain ⟨i', φ, h, ms, r, q1, q2, q3, q4, q5, q6⟩ := hh
    rw [hf] at q1; cases q1
    rw [e4]; exact q2
  · obtain ⟨i', φ, h, ms, r, q1, q2, q3, q4, q5, q6⟩ := hh
    rw [hf] at q1; cases q1
    have xr : XR g k (cxOf CX0 P w K mg base i.names f (defScope st) a cdv A outer s H E).nox ⟨i.names, defScope st, fun _ => true⟩ :=
      { hN := rfl, nd := e3.nd, sc := rfl, fn := rfl, calm := rfl, room := hr, xe := rfl, fns := fun f' i' h' => ih f' i' h', cns := M.cns, blt := M.blt }
    refine ⟨_, simSs xr i.body (defBody st) e6, ?_⟩
    simp only [run, hf] at q5
    split at q5
    · rename_i hl
      simp only [Option.bind_eq_some_iff] at q5
      obtain ⟨o, f1, f2⟩ := q5
      have len : (ms.map some ++ List.replicate (i.names.length - ms.length) (none : Option MV)).length = (L2.start i.names vs).length := by
        unfold L2.start
        rw [List.length_append, List.length_append, List.length_map, List.length_map, List.length_replicate, List.length_replicate, q4.len]
      have er : EnvR K φ H (ms.map some ++ List.replicate (i.names.length - ms.length) none) (L2.start i.names vs) := by
        refine ⟨len, fun j m hj => ?_⟩
        have hjl : j < ms.length := by
          by_cases hjl : j < ms.length
          · exact hjl
          · rw [List.getElem?_append_right (by simpa using hjl), List.getElem?_replicate] at hj
            split at hj <;> cases hj
        rw [List.getElem?_append_left (by simpa using hjl), List.getElem?_map, List.getElem?_eq_getElem hjl] at hj
        cases hj
        obtain ⟨v, hv, rv⟩ := q4.get (List.getElem?_eq_getElem hjl)
        refine ⟨v, ?_, rv⟩
        unfold L2.start
        rw [List.getElem?_append_left (by rw [List.length_map, q4.len]; exact hjl), List.getElem?_map, hv]
        rfl
      refine ⟨φ, h, _, o, er.ew q3, f1, fun φ' H' σ' s' w' => ?_⟩
      cases hfl : o.fl with
      | nx =>
        rw [hfl] at f2
        cases f2
        obtain ⟨φ3, s3, hr3, rv3⟩ := gc_ok (v := .non) (r := (.non, o.h)) q3 s' w'.hr rfl
        exact q6 φ3 H' .non s3 hr3 rv3
      | rt r =>
        rw [hfl] at f2
        cases f2
        intro v rv
        obtain ⟨φ3, s3, hr3, rv3⟩ := gc_ok (r := (r, o.h)) q3 s' w'.hr rv
        exact q6 φ3 H' v s3 hr3 rv3
      | bk => rw [hfl] at f2; cases f2
      | ct => rw [hfl] at f2; cases f2
    · cases q5
theorem fn_all (M : ModSt K mg g) : ∀ (k : Nat) (f : Str) (i : FnI), g.fns.lookup f = some i → ∃ a fd ps, mg f = some (.ref a) ∧ PySem.W.keepIn K (.ref a) = true ∧ Binds K fd ps [] ∧ ps.length = i.np ∧ FnOk P w K mg base CX0 k a fd ps (spM K g k f)
  | 0, f, i, hf => by
    obtain ⟨a, fd, st, ps, e1, e2, e3, e4, e5, e6⟩ := (M.fns f i hf).ex
    refine ⟨a, fd, ps, e1, e2.kp, e5, e4, ⟨fun vs H Q E hh => ?_, fun A outer s H args us vs Q E hr he hb hv hh => ?_⟩⟩
    · obtain ⟨i', φ, h, ms, r, q1, q2, q3, q4, q5, q6⟩ := hh
      simp only [run] at q5
      cases q5
    · obtain ⟨i', φ, h, ms, r, q1, q2, q3, q4, q5, q6⟩ := hh
      simp only [run] at q5
      cases q5
  | k + 1, f, i, hf => by
    obtain ⟨a, fd, st, ps, e1, F, e3, e4, e5, e6⟩ := (M.fns f i hf).ex
    exact ⟨a, fd, ps, e1, F.kp, e5, e4, fn_step M (fn_all M k) F e3 e4 hf e6⟩
theorem fn_at (M : ModSt K mg g) {k : Nat} {f : Str} {i : FnI} {a : Addr} {fd : FuncData} {st : Stmt} {ps : List Str} (F : Fun K f f st a fd) (e3 : FnScope i.names ps (defScope st)) (e4 : ps.length = i.np) (hf : g.fns.lookup f = some i) (e6 : chkSs g ⟨i.names, defScope st, fun _ => true⟩ (defBody st) i.body = true) :
    FnOk P w K mg base CX0 (k + 1) a fd ps (spM K g (k + 1) f) := fn_step M (fn_all M k) F e3 e4 hf e6
/-- a def as the top has left it -/
structure DefAt (K : Fra) (f : Str) (st : Stmt) : Prop where
  ex : ∃ (ad : Addr) (oc : Value) (od : Option Addr) (kV dc pm : Value) (an : Option Addr) (cd ct : Value) (sl : Array (Option Value)), PySem.W.nsIn K mainGlobals f = some (some (.ref ad)) ∧
    K.lookup ad = some ⟨oc, od, .func (PySem.W.fnOf f f (defArgs st) (defBody st) (defScope st) .none kV dc pm an cd ct), sl⟩ ∧ PySem.W.codeIn K cd f = true ∧ PySem.W.keepIn K (.ref ad) = true
structure CnAt (K : Fra) (x : Str) (m : MV) : Prop where
  ex : ∃ (u : Value) (w : V), PySem.W.nsIn K mainGlobals x = some (some u) ∧ RelV w u ∧ ∀ H, RV K [] H w m
theorem defAt {f : Str} {st : Stmt} {ad : Addr} {oc : Value} {od : Option Addr} {kV dc pm : Value} {an : Option Addr} {cd ct : Value} {sl : Array (Option Value)} (e1 : PySem.W.nsIn K mainGlobals f = some (some (.ref ad)))
    (e2 : K.lookup ad = some ⟨oc, od, .func (PySem.W.fnOf f f (defArgs st) (defBody st) (defScope st) .none kV dc pm an cd ct), sl⟩) (e3 : PySem.W.codeIn K cd f = true) (e4 : PySem.W.keepIn K (.ref ad) = true) : DefAt K f st :=
  ⟨ad, oc, od, kV, dc, pm, an, cd, ct, sl, e1, e2, e3, e4⟩
theorem cnInt {x : Str} {i : Int} {t : Tok} (e1 : PySem.W.nsIn K mainGlobals x = some (some (.int i t))) : CnAt K x (.int i) := ⟨.int i t, .int i, e1, ⟨t, rfl⟩, fun _ => rfl⟩
theorem fnst {h : Heap} {f : Str} {i : FnI} {st : Stmt} {ps : List Str} (X : K.In h) (G : h.Ns mainGlobals mg) (d : DefAt K f st) (S : FnScope i.names ps (defScope st)) (hp : ps.length = i.np)
    (hb : ∀ (kV dc pm : Value) (an : Option Addr) (cd ct : Value) (us : List Value), us.length = ps.length → bindArgs (PySem.W.fnOf f f (defArgs st) (defBody st) (defScope st) .none kV dc pm an cd ct) ⟨us, []⟩ = pure (ps.zip us))
    (hc : chkSs g ⟨i.names, defScope st, fun _ => true⟩ (defBody st) i.body = true) : FnSt K mg g f i := by
  obtain ⟨ad, oc, od, kV, dc, pm, an, cd, ct, sl, e1, e2, e3, e4⟩ := d.ex
  have F := fun_mk (st := st) e2 e3 e4
  exact ⟨ad, _, st, ps, PySem.W.mg_of X G e1, F, S, hp, F.binds hb, hc⟩
theorem all_nil {α : Type} {Q : α → Prop} : ∀ p ∈ ([] : List α), Q p := fun p h => by simp at h
theorem all_cons {α : Type} {Q : α → Prop} {x : α} {xs : List α} (a : Q x) (b : ∀ p ∈ xs, Q p) : ∀ p ∈ x :: xs, Q p := fun p h => by
  rcases List.mem_cons.mp h with e | e
  · rw [e]; exact a
  · exact b p e
theorem modst {h : Heap} (X : K.In h) (G : h.Ns mainGlobals mg) (fs : ∀ p ∈ g.fns, FnSt K mg g p.1 p.2) (cs : ∀ p ∈ g.cns, CnAt K p.1 p.2) (bs : ∀ x ∈ bltNames, PySem.W.nsIn K mainGlobals x = some none) : ModSt K mg g where
  fns := fun f i e => fs (f, i) (PySem.mem_of_lookup e)
  cns := fun x m e => by
    obtain ⟨u, w, e1, e2, e3⟩ := (cs (x, m) (PySem.mem_of_lookup e)).ex
    exact ⟨u, w, PySem.W.mg_of X G e1, e2, e3⟩
  blt := fun x hx => PySem.W.mg_none_of X G (bs x hx)
/-- the law's def and its promise -/
theorem law_mk {h : Heap} {fa : Addr} {k : Nat} {i : FnI} {st : Stmt} (X : K.In h) (G : h.Ns mainGlobals mg) (hfa : mg ("law" : Str) = some (.ref fa)) (d : DefAt K "law" st) (hi : g.fns.lookup ("law" : Str) = some i) (M : ModSt K mg g)
    (hbd : ∀ (kV dc pm : Value) (an : Option Addr) (cd ct : Value) (s : Shared) (v : Value), BindsTo s (PySem.W.fnOf "law" "law" (defArgs st) (defBody st) (defScope st) .none kV dc pm an cd ct) ⟨[v], []⟩ [("script", v)])
    (hp : ∀ (kV dc pm : Value) (an : Option Addr) (cd ct : Value), FnScope i.names ["script"] (defScope st)) (hnp : i.np = 1)
    (hc : chkSs g ⟨i.names, defScope st, fun _ => true⟩ (defBody st) i.body = true) :
    ∃ fd : FuncData, (∀ (s : Shared) (v : Value), BindsTo s fd ⟨[v], []⟩ [("script", v)]) ∧ ∀ base : Heap, K.In base → base.Ns mainGlobals mg → FnOk P w K mg base CX0 (k + 1) fa fd ["script"] (spM K g (k + 1) "law") := by
  obtain ⟨ad, oc, od, kV, dc, pm, an, cd, ct, sl, e1, e2, e3, e4⟩ := d.ex
  have e := hfa.symm.trans (PySem.W.mg_of X G e1)
  cases e
  refine ⟨_, hbd kV dc pm an cd ct, fun base _ _ => ?_⟩
  have F := fun_mk (st := st) e2 e3 e4
  exact fn_at M F (hp kV dc pm an cd ct) (by rw [hnp]; rfl) hi hc
/-- the script as the small language sees it -/
def scriptM (ns : List Int) : MV := .frl (ns.map .int)
theorem rvs_ints {φ : List Addr} {H : Hp} : ∀ ns : List Int, RVs K φ H (ns.map V.int) (ns.map MV.int)
  | [] => rfl
  | n :: ns => ⟨.int n, ns.map V.int, rfl, rfl, rvs_ints ns⟩
/-- the law's promise -/
def spLaw (K : Fra) (g : Mod) (k : Nat) : Sp := fun vs H Q E => spM K g k "law" vs H Q E
theorem sp_law {k : Nat} {i : FnI} {H : Hp} {a : Addr} {ns : List Int} (hi : g.fns.lookup ("law" : Str) = some i) (hnp : i.np = 1) (hz : ns.length ≤ 63) (ho : Only H) (hs : SqL K H a (ns.map V.int))
    (hrun : ∃ h', run g k "law" [scriptM ns] [] = some (.bl true, h')) : spM K g k "law" [.ref a] H (fun v _ => v = .bl true) (fun _ _ _ => False) := by
  obtain ⟨h', e⟩ := hrun
  refine ⟨i, [], [], [scriptM ns], _, hi, by rw [hnp]; rfl, ⟨rfl, List.nodup_nil, fun j a o z => by simp at z⟩, ?_, e, fun φ' H' v _ _ rv => rv⟩
  have hf : FrL K H a (ns.map V.int) := by
    rcases hs with (hs | hs) | hs
    · rcases ho a with z | ⟨o, xs, z⟩
      · rw [hs] at z; cases z
      · rw [hs] at z; cases z
    · exact .inl hs
    · exact .inr hs
  exact .one ⟨a, ns.map V.int, rfl, hf, rvs_ints ns, by rw [List.length_map]; exact Nat.le_trans hz (by decide)⟩
end
end MP
namespace MP
open PySem
noncomputable def finR (h : MH) (o : Out) : R := match o.fl with
  | .nx => some (gc h (.non, o.h))
  | .rt v => some (gc h (v, o.h))
  | _ => none
theorem run_def {g : Mod} {k : Nat} {f : Str} {i : FnI} {vs : List MV} {h : MH} (hf : g.fns.lookup f = some i) (hl : vs.length = i.np) :
    run g (k + 1) f vs h = (evSs g (run g k) i.body (vs.map some ++ List.replicate (i.names.length - vs.length) none) h).bind (finR h) := by
  simp only [run, hf, if_pos hl]
  congr
mutual
def MV.data : MV → Bool
  | .ref _ => false
  | .tup xs => dataAll xs
  | .frl xs => dataAll xs
  | _ => true
def dataAll : List MV → Bool
  | [] => true
  | x :: xs => MV.data x && dataAll xs
end
mutual
theorem lt_data : ∀ {m : MV} {n : Nat}, m.data = true → m.lt n
  | .non, _, _ => by unfold MV.lt; exact True.intro
  | .bl _, _, _ => by unfold MV.lt; exact True.intro
  | .int _, _, _ => by unfold MV.lt; exact True.intro
  | .str _, _, _ => by unfold MV.lt; exact True.intro
  | .tup xs, n, h => by
    unfold MV.lt
    exact lt_dataAll (by simpa [MV.data] using h)
  | .frl xs, n, h => by
    unfold MV.lt
    exact lt_dataAll (by simpa [MV.data] using h)
  | .ref _, _, h => by simp [MV.data] at h
theorem lt_dataAll : ∀ {m : List MV} {n : Nat}, dataAll m = true → ltAll n m
  | [], _, _ => by unfold ltAll; exact True.intro
  | x :: xs, n, h => by
    simp only [dataAll, Bool.and_eq_true] at h
    unfold ltAll
    exact ⟨lt_data h.1, lt_dataAll h.2⟩
end
theorem dataAll_iff {xs : List MV} : dataAll xs = true ↔ ∀ x ∈ xs, x.data = true := by
  induction xs with
  | nil => simp [dataAll]
  | cons x xs ih => simp [dataAll, ih]
@[simp] theorem data_int (i : Int) : (MV.int i).data = true := by simp only [MV.data]
@[simp] theorem data_bl (i : Bool) : (MV.bl i).data = true := by simp only [MV.data]
@[simp] theorem data_non : (MV.non).data = true := by simp only [MV.data]
@[simp] theorem data_str (i : Str) : (MV.str i).data = true := by simp only [MV.data]
@[simp] theorem data_tup (xs : List MV) : (MV.tup xs).data = dataAll xs := by simp [MV.data]
@[simp] theorem data_frl (xs : List MV) : (MV.frl xs).data = dataAll xs := by simp [MV.data]
@[simp] theorem dataAll_nil : dataAll [] = true := by simp [dataAll]
@[simp] theorem dataAll_cons (x : MV) (xs : List MV) : dataAll (x :: xs) = (x.data && dataAll xs) := by simp [dataAll]
@[simp] theorem dataAll_append (xs ys : List MV) : dataAll (xs ++ ys) = (dataAll xs && dataAll ys) := by
  induction xs with
  | nil => simp
  | cons x xs ih => simp [ih, Bool.and_assoc]
@[simp] theorem dataAll_ints (xs : List Int) : dataAll (xs.map MV.int) = true := by
  rw [dataAll_iff]; intro x hx; simp at hx; obtain ⟨a, _, rfl⟩ := hx; rfl
theorem gc_app {h j : MH} {v : MV} (hv : v.data = true) : gc h (v, h ++ j) = (v, h) := by
  unfold gc
  have c : h.length ≤ (h ++ j).length ∧ ∀ i o, i < h.length → (h ++ j)[i]? = some o → h[i]? = some o ∨ o.lt h.length :=
    ⟨by simp, fun i o hi q => .inl (by rwa [List.getElem?_append_left hi] at q)⟩
  rw [if_pos c, if_pos (lt_data hv)]
  simp
theorem gc_same {h : MH} {v : MV} (hv : v.data = true) : gc h (v, h) = (v, h) := gc_self (lt_data hv)
/-- old places changed, each to things that name old places -/
theorem gc_upd {h h' j : MH} {v : MV} (hl : h'.length = h.length) (ho : ∀ i o, i < h.length → h'[i]? = some o → h[i]? = some o ∨ o.lt h.length) (hv : v.lt h.length) : gc h (v, h' ++ j) = (v, h') := by
  unfold gc
  have c : h.length ≤ (h' ++ j).length ∧ ∀ i o, i < h.length → (h' ++ j)[i]? = some o → h[i]? = some o ∨ o.lt h.length :=
    ⟨by simp [hl], fun i o hi q => ho i o hi (by rwa [List.getElem?_append_left (by rw [hl]; exact hi)] at q)⟩
  rw [if_pos c, if_pos hv]
  simp [← hl]
/-- a new list is handed on -/
theorem gc_lst {h h' j : MH} {i : Nat} {o : MO} (hl : h'.length = h.length) (ho : ∀ i o, i < h.length → h'[i]? = some o → h[i]? = some o ∨ o.lt h.length) (hj : j[i]? = some o) (hlt : o.lt h.length) :
    gc h (.ref (h.length + i), h' ++ j) = (.ref h.length, h' ++ [o]) := by
  unfold gc
  have c : h.length ≤ (h' ++ j).length ∧ ∀ i o, i < h.length → (h' ++ j)[i]? = some o → h[i]? = some o ∨ o.lt h.length :=
    ⟨by simp [hl], fun i o hi q => ho i o hi (by rwa [List.getElem?_append_left (by rw [hl]; exact hi)] at q)⟩
  have n : ¬ (MV.ref (h.length + i)).lt h.length := by unfold MV.lt; omega
  rw [if_pos c, if_neg n]
  have g : (h' ++ j)[h.length + i]? = some o := by
    rw [List.getElem?_append_right (by omega), hl, Nat.add_sub_cancel_left]; exact hj
  simp only [g]
  rw [if_pos hlt]
  simp [← hl]
theorem compL_pure {tgt : Tg} {st : Its} {env : Env} {tst elt : Env → MH → R} {h : MH} (ev : MV → Env) (p : MV → Bool) (f : MV → MV) (hs : st.still h) : ∀ (xs acc : List MV),
    (∀ v ∈ xs, bindT tgt v env = some (ev v) ∧ tst (ev v) h = some (.bl (p v), h) ∧ (p v = true → ∃ j, elt (ev v) h = some (f v, h ++ j) ∧ (f v).data = true)) →
    compL tgt st env tst elt xs acc h = some (acc ++ (xs.filter p).map f, h)
  | [], acc, _ => by
    simp only [compL, if_pos hs]
    simp
  | v :: vs, acc, ih => by
    obtain ⟨e1, e2, e3⟩ := ih v List.mem_cons_self
    have ih2 := fun acc => compL_pure (acc := acc) ev p f hs vs fun w hw => ih w (List.mem_cons_of_mem _ hw)
    simp only [compL, if_pos hs, e1, Option.bind_some, e2]
    cases hp : p v with
    | true =>
      obtain ⟨j, e4, e5⟩ := e3 hp
      simp only [e4, Option.bind_some, gc_app e5]
      rw [ih2]
      simp [hp]
    | false =>
      simp only
      rw [ih2]
      simp [hp]
/-- the heap changes turn by turn -/
theorem compL_st {α : Type} {tgt : Tg} {st : Its} {env : Env} {tst elt : Env → MH → R} (hp : α → MH) (ev : MV → Env) (f : α → MV → MV) (s : α → MV → α) (hs : ∀ a, st.still (hp a)) : ∀ (xs acc : List MV) (a : α),
    (∀ v ∈ xs, ∀ a, bindT tgt v env = some (ev v) ∧ tst (ev v) (hp a) = some (.bl true, hp a) ∧ ∃ r, elt (ev v) (hp a) = some r ∧ gc (hp a) r = (f a v, hp (s a v))) →
    compL tgt st env tst elt xs acc (hp a) = some ((xs.foldl (fun q v => (s q.1 v, q.2 ++ [f q.1 v])) (a, acc)).2, hp (xs.foldl s a))
  | [], acc, a, _ => by
    simp only [compL, if_pos (hs a)]
    simp
  | v :: vs, acc, a, ih => by
    obtain ⟨e1, e2, r, e3, e4⟩ := ih v List.mem_cons_self a
    simp only [compL, if_pos (hs a), e1, Option.bind_some, e2, e3, e4]
    rw [compL_st hp ev f s hs vs _ _ fun w hw => ih w (List.mem_cons_of_mem _ hw)]
    rfl
theorem forL_st {α : Type} {tgt : Tg} {st : Its} {body : Env → MH → Option Out} (en : α → Env) (hp : α → MH) (s : α → MV → α) (Pv : α → Prop) (hs : ∀ a, Pv a → st.still (hp a)) : ∀ (xs : List MV) (a : α), Pv a →
    (∀ v ∈ xs, ∀ a, Pv a → Pv (s a v) ∧ ∃ e o, bindT tgt v (en a) = some e ∧ body e (hp a) = some o ∧ (o.fl = .nx ∨ o.fl = .ct) ∧ o.env = en (s a v) ∧ o.h = hp (s a v)) →
    forL tgt st body xs (en a) (hp a) = some ⟨.nx, en (xs.foldl s a), hp (xs.foldl s a)⟩
  | [], a, ha, _ => by
    simp only [forL, if_pos (hs a ha)]
    rfl
  | v :: vs, a, ha, ih => by
    obtain ⟨hp', e, o, e1, e2, e3, e4, e5⟩ := ih v List.mem_cons_self a ha
    have ih2 := forL_st en hp s Pv hs vs (s a v) hp' fun w hw => ih w (List.mem_cons_of_mem _ hw)
    simp only [forL, if_pos (hs a ha), e1, Option.bind_some, e2]
    rw [← e4, ← e5] at ih2
    rcases e3 with e3 | e3 <;> rw [e3] <;> exact ih2
end MP
namespace MP
open PySem
def ab (i : Int) : Int := if i < 0 then -i else i
def mx (i j : Int) : Int := if j > i then j else i
def mn (i j : Int) : Int := if j < i then j else i
section
variable {g : Mod} {cf : Str → List MV → MH → R}
variable (g cf)
def kCons (x : MV) (r : List MV × MH) : List MV × MH := (x :: r.1, r.2)
noncomputable def kEs (es : List E) (env : Env) (x : MV × MH) : Option (List MV × MH) := (evEs g cf es env x.2).map (kCons x.1)
def kTup (r : List MV × MH) : R := some (.tup r.1, r.2)
def kLst (r : List MV × MH) : R := some (.ref r.2.length, r.2 ++ [.lst r.1])
def kBin2 (o : BOp) (x : MV) (y : MV × MH) : R := binM o y.2 x y.1
noncomputable def kBin (o : BOp) (b : E) (env : Env) (x : MV × MH) : R := (evE g cf b env x.2).bind (kBin2 o x.1)
def kBl (h : MH) (c : Bool) : MV × MH := (.bl c, h)
def kCmp2 (o : COp) (x : MV) (y : MV × MH) : R := (cmpM o y.2 x y.1).map (kBl y.2)
noncomputable def kCmp (o : COp) (b : E) (env : Env) (x : MV × MH) : R := (evE g cf b env x.2).bind (kCmp2 o x.1)
def kCh4 (o : COp) (y : MV) (z : MV × MH) : R := (cmpM o z.2 y z.1).map (kBl z.2)
noncomputable def kCh3 (o2 : COp) (c : E) (env : Env) (y : MV × MH) (b : Bool) : R := if b = true then (evE g cf c env y.2).bind (kCh4 o2 y.1) else some (.bl false, y.2)
noncomputable def kCh2 (o1 o2 : COp) (c : E) (env : Env) (x : MV) (y : MV × MH) : R := (cmpM o1 y.2 x y.1).bind (kCh3 g cf o2 c env y)
noncomputable def kCh1 (o1 o2 : COp) (b c : E) (env : Env) (x : MV × MH) : R := (evE g cf b env x.2).bind (kCh2 g cf o1 o2 c env x.1)
noncomputable def kAnd2 (b : E) (env : Env) (x : MV × MH) (c : Bool) : R := if c = true then evE g cf b env x.2 else some x
noncomputable def kAnd (b : E) (env : Env) (x : MV × MH) : R := (truth x.2 x.1).bind (kAnd2 g cf b env x)
noncomputable def kOr2 (b : E) (env : Env) (x : MV × MH) (c : Bool) : R := if c = true then some x else evE g cf b env x.2
noncomputable def kOr (b : E) (env : Env) (x : MV × MH) : R := (truth x.2 x.1).bind (kOr2 g cf b env x)
def kNot2 (h : MH) (c : Bool) : MV × MH := (.bl (!c), h)
def kNot (x : MV × MH) : R := (truth x.2 x.1).map (kNot2 x.2)
noncomputable def kIfe2 (a b : E) (env : Env) (h : MH) (c : Bool) : R := if c = true then evE g cf a env h else evE g cf b env h
noncomputable def kIfe (a b : E) (env : Env) (x : MV × MH) : R := (truth x.2 x.1).bind (kIfe2 g cf a b env x.2)
def kPair (h : MH) (v : MV) : MV × MH := (v, h)
def kIdx2 (x : MV) (y : MV × MH) : R := (atM y.2 x y.1).map (kPair y.2)
noncomputable def kIdx (i : E) (env : Env) (x : MV × MH) : R := (evE g cf i env x.2).bind (kIdx2 x.1)
def kSl3 (lo hi : E) (x l : MV) (u : MV × MH) : R := (partM lo.isNon l).bind fun i => (partM hi.isNon u.1).bind fun j => sliceM u.2 x i j
noncomputable def kSl2 (lo hi : E) (env : Env) (x : MV) (l : MV × MH) : R := (evE g cf hi env l.2).bind (kSl3 lo hi x l.1)
noncomputable def kSl (lo hi : E) (env : Env) (x : MV × MH) : R := (evE g cf lo env x.2).bind (kSl2 g cf lo hi env x.1)
def kCall (f : Str) (r : List MV × MH) : R := cf f r.1 r.2
def kBi (f : Bi) (r : List MV × MH) : R := biM f r.2 r.1
def kIsi (t : TyN) (x : MV × MH) : R := (isiM x.2 x.1 t).map (kBl x.2)
def kMe2 (m : Me) (x : MV) (r : List MV × MH) : R := methM m r.2 x r.1
noncomputable def kMe (m : Me) (es : List E) (env : Env) (x : MV × MH) : R := (evEs g cf es env x.2).bind (kMe2 m x.1)
noncomputable def cTst (cs : List E) : Env → MH → R := fun e h => match cs with
  | [] => some (.bl true, h)
  | c :: _ => (evE g cf c e h).bind fun x => (truth x.2 x.1).map fun b => gc h (.bl b, x.2)
noncomputable def cElt (elt : E) : Env → MH → R := fun e h => evE g cf elt e h
def kNew (q : List MV × MH) : MV × MH := (.ref q.2.length, q.2 ++ [.lst q.1])
noncomputable def kComp2 (elt : E) (t : Tg) (cs : List E) (own : List (Str × Nat)) (env : Env) (st : Its × MH) : R := (compL t st.1 (wipeM env (own.map (·.2))) (cTst g cf cs) (cElt g cf elt) st.1.items [] st.2).map kNew
noncomputable def kComp (elt : E) (t : Tg) (k : IK) (cs : List E) (own : List (Str × Nat)) (env : Env) (h : MH) (r : List MV × MH) : R := (itsG k h r).bind (kComp2 g cf elt t cs own env)
def kRg2 (h : MH) (st : Its) : MV × MH := (.ref h.length, h ++ [.lst st.items])
def kRg (k : IK) (r : List MV × MH) : R := match k with
    | .ex => none
    | k => (itsM k r.2 r.1).map (kRg2 r.2)
variable {g cf}
section
variable (env : Env) (h : MH)
@[simp] theorem evE_non : evE g cf .non env h = some (.non, h) := by simp only [evE]
@[simp] theorem evE_bl (b : Bool) : evE g cf (.bl b) env h = some (.bl b, h) := by simp only [evE]
@[simp] theorem evE_int (i : Int) : evE g cf (.int i) env h = some (.int i, h) := by simp only [evE]
@[simp] theorem evE_str (x : Str) : evE g cf (.str x) env h = some (.str x, h) := by simp only [evE]
theorem evE_var {i : Nat} {v : MV} (e : env[i]? = some (some v)) : evE g cf (.var i) env h = some (v, h) := by simp only [evE, e]
@[simp] theorem var0 (a : MV) (e : Env) : evE g cf (.var 0) (some a :: e) h = some (a, h) := evE_var _ _ rfl
@[simp] theorem var1 (x0) (a : MV) (e : Env) : evE g cf (.var 1) (x0 :: some a :: e) h = some (a, h) := evE_var _ _ rfl
@[simp] theorem var2 (x0 x1) (a : MV) (e : Env) : evE g cf (.var 2) (x0 :: x1 :: some a :: e) h = some (a, h) := evE_var _ _ rfl
@[simp] theorem var3 (x0 x1 x2) (a : MV) (e : Env) : evE g cf (.var 3) (x0 :: x1 :: x2 :: some a :: e) h = some (a, h) := evE_var _ _ rfl
@[simp] theorem var4 (x0 x1 x2 x3) (a : MV) (e : Env) : evE g cf (.var 4) (x0 :: x1 :: x2 :: x3 :: some a :: e) h = some (a, h) := evE_var _ _ rfl
@[simp] theorem var5 (x0 x1 x2 x3 x4) (a : MV) (e : Env) : evE g cf (.var 5) (x0 :: x1 :: x2 :: x3 :: x4 :: some a :: e) h = some (a, h) := evE_var _ _ rfl
@[simp] theorem var6 (x0 x1 x2 x3 x4 x5) (a : MV) (e : Env) : evE g cf (.var 6) (x0 :: x1 :: x2 :: x3 :: x4 :: x5 :: some a :: e) h = some (a, h) := evE_var _ _ rfl
@[simp] theorem var7 (x0 x1 x2 x3 x4 x5 x6) (a : MV) (e : Env) : evE g cf (.var 7) (x0 :: x1 :: x2 :: x3 :: x4 :: x5 :: x6 :: some a :: e) h = some (a, h) := evE_var _ _ rfl
@[simp] theorem var8 (x0 x1 x2 x3 x4 x5 x6 x7) (a : MV) (e : Env) : evE g cf (.var 8) (x0 :: x1 :: x2 :: x3 :: x4 :: x5 :: x6 :: x7 :: some a :: e) h = some (a, h) := evE_var _ _ rfl
@[simp] theorem var9 (x0 x1 x2 x3 x4 x5 x6 x7 x8) (a : MV) (e : Env) : evE g cf (.var 9) (x0 :: x1 :: x2 :: x3 :: x4 :: x5 :: x6 :: x7 :: x8 :: some a :: e) h = some (a, h) := evE_var _ _ rfl
@[simp] theorem var10 (x0 x1 x2 x3 x4 x5 x6 x7 x8 x9) (a : MV) (e : Env) : evE g cf (.var 10) (x0 :: x1 :: x2 :: x3 :: x4 :: x5 :: x6 :: x7 :: x8 :: x9 :: some a :: e) h = some (a, h) := evE_var _ _ rfl
@[simp] theorem var11 (x0 x1 x2 x3 x4 x5 x6 x7 x8 x9 x10) (a : MV) (e : Env) : evE g cf (.var 11) (x0 :: x1 :: x2 :: x3 :: x4 :: x5 :: x6 :: x7 :: x8 :: x9 :: x10 :: some a :: e) h = some (a, h) := evE_var _ _ rfl
@[simp] theorem var12 (x0 x1 x2 x3 x4 x5 x6 x7 x8 x9 x10 x11) (a : MV) (e : Env) : evE g cf (.var 12) (x0 :: x1 :: x2 :: x3 :: x4 :: x5 :: x6 :: x7 :: x8 :: x9 :: x10 :: x11 :: some a :: e) h = some (a, h) := evE_var _ _ rfl
@[simp] theorem evE_tup (es : List E) : evE g cf (.tup es) env h = (evEs g cf es env h).bind kTup := by simp only [evE]; rfl
@[simp] theorem evE_lst (es : List E) : evE g cf (.lst es) env h = (evEs g cf es env h).bind kLst := by simp only [evE]; rfl
@[simp] theorem evE_bin (o : BOp) (a b : E) : evE g cf (.bin o a b) env h = (evE g cf a env h).bind (kBin g cf o b env) := by simp only [evE]; rfl
@[simp] theorem evE_neg (a : E) : evE g cf (.neg a) env h = (evE g cf a env h).bind negM := by simp only [evE]
@[simp] theorem evE_cmp (o : COp) (a b : E) : evE g cf (.cmp o a b) env h = (evE g cf a env h).bind (kCmp g cf o b env) := by simp only [evE]; rfl
@[simp] theorem evE_chain (o1 o2 : COp) (a b c : E) : evE g cf (.chain o1 o2 a b c) env h = (evE g cf a env h).bind (kCh1 g cf o1 o2 b c env) := by simp only [evE]; rfl
@[simp] theorem evE_and (a b : E) : evE g cf (.and a b) env h = (evE g cf a env h).bind (kAnd g cf b env) := by simp only [evE]; rfl
@[simp] theorem evE_or (a b : E) : evE g cf (.or a b) env h = (evE g cf a env h).bind (kOr g cf b env) := by simp only [evE]; rfl
@[simp] theorem evE_not (a : E) : evE g cf (.not a) env h = (evE g cf a env h).bind kNot := by simp only [evE]; rfl
@[simp] theorem evE_ife (c a b : E) : evE g cf (.ife c a b) env h = (evE g cf c env h).bind (kIfe g cf a b env) := by simp only [evE]; rfl
@[simp] theorem evE_idx (a i : E) : evE g cf (.idx a i) env h = (evE g cf a env h).bind (kIdx g cf i env) := by simp only [evE]; rfl
@[simp] theorem evE_slice (a lo hi : E) : evE g cf (.slice a lo hi) env h = (evE g cf a env h).bind (kSl g cf lo hi env) := by simp only [evE]; rfl
@[simp] theorem evE_call (f : Str) (es : List E) : evE g cf (.call f es) env h = (evEs g cf es env h).bind (kCall cf f) := by simp only [evE]; rfl
@[simp] theorem evE_bi (f : Bi) (es : List E) : evE g cf (.bi f es) env h = (evEs g cf es env h).bind (kBi f) := by simp only [evE]; rfl
@[simp] theorem evE_isi (a : E) (t : TyN) : evE g cf (.isi a t) env h = (evE g cf a env h).bind (kIsi t) := by simp only [evE]; rfl
@[simp] theorem evE_meth (m : Me) (o : E) (es : List E) : evE g cf (.meth m o es) env h = (evE g cf o env h).bind (kMe g cf m es env) := by simp only [evE]; rfl
@[simp] theorem evE_comp (elt : E) (t : Tg) (k : IK) (es cs : List E) (own : List (Str × Nat)) : evE g cf (.comp elt t k es cs own) env h = (evEs g cf es env h).bind (kComp g cf elt t k cs own env h) := by
  simp only [evE]; rfl
@[simp] theorem evE_lrng (k : IK) (es : List E) : evE g cf (.lrng k es) env h = (evEs g cf es env h).bind (kRg k) := by
  simp only [evE]; cases evEs g cf es env h <;> cases k <;> rfl
@[simp] theorem evEs_nil : evEs g cf [] env h = some ([], h) := by simp only [evEs]
@[simp] theorem evEs_cons (e : E) (es : List E) : evEs g cf (e :: es) env h = (evE g cf e env h).bind (kEs g cf es env) := by simp only [evEs]; rfl
end
section
variable (env : Env) (h : MH) (x y z l u : MV) (xs : List MV)
@[simp] theorem kCons_ap : kCons x (xs, h) = (x :: xs, h) := rfl
@[simp] theorem kEs_ap (es : List E) : kEs g cf es env (x, h) = (evEs g cf es env h).map (kCons x) := rfl
@[simp] theorem kTup_ap : kTup (xs, h) = some (.tup xs, h) := rfl
@[simp] theorem kLst_ap : kLst (xs, h) = some (.ref h.length, h ++ [.lst xs]) := rfl
@[simp] theorem kBin_ap (o : BOp) (b : E) : kBin g cf o b env (x, h) = (evE g cf b env h).bind (kBin2 o x) := rfl
@[simp] theorem kBin2_ap (o : BOp) : kBin2 o x (y, h) = binM o h x y := rfl
@[simp] theorem kBl_ap (c : Bool) : kBl h c = (.bl c, h) := rfl
@[simp] theorem kCmp_ap (o : COp) (b : E) : kCmp g cf o b env (x, h) = (evE g cf b env h).bind (kCmp2 o x) := rfl
@[simp] theorem kCmp2_ap (o : COp) : kCmp2 o x (y, h) = (cmpM o h x y).map (kBl h) := rfl
@[simp] theorem kCh1_ap (o1 o2 : COp) (b c : E) : kCh1 g cf o1 o2 b c env (x, h) = (evE g cf b env h).bind (kCh2 g cf o1 o2 c env x) := rfl
@[simp] theorem kCh2_ap (o1 o2 : COp) (c : E) : kCh2 g cf o1 o2 c env x (y, h) = (cmpM o1 h x y).bind (kCh3 g cf o2 c env (y, h)) := rfl
@[simp] theorem kCh3_ap (o2 : COp) (c : E) (b : Bool) : kCh3 g cf o2 c env (y, h) b = if b = true then (evE g cf c env h).bind (kCh4 o2 y) else some (.bl false, h) := rfl
@[simp] theorem kCh4_ap (o : COp) : kCh4 o y (z, h) = (cmpM o h y z).map (kBl h) := rfl
@[simp] theorem kAnd_ap (b : E) : kAnd g cf b env (x, h) = (truth h x).bind (kAnd2 g cf b env (x, h)) := rfl
@[simp] theorem kAnd2_ap (b : E) (c : Bool) : kAnd2 g cf b env (x, h) c = if c = true then evE g cf b env h else some (x, h) := rfl
@[simp] theorem kOr_ap (b : E) : kOr g cf b env (x, h) = (truth h x).bind (kOr2 g cf b env (x, h)) := rfl
@[simp] theorem kOr2_ap (b : E) (c : Bool) : kOr2 g cf b env (x, h) c = if c = true then some (x, h) else evE g cf b env h := rfl
@[simp] theorem kNot_ap : kNot (x, h) = (truth h x).map (kNot2 h) := rfl
@[simp] theorem kNot2_ap (c : Bool) : kNot2 h c = (.bl (!c), h) := rfl
@[simp] theorem kIfe_ap (a b : E) : kIfe g cf a b env (x, h) = (truth h x).bind (kIfe2 g cf a b env h) := rfl
@[simp] theorem kIfe2_ap (a b : E) (c : Bool) : kIfe2 g cf a b env h c = if c = true then evE g cf a env h else evE g cf b env h := rfl
@[simp] theorem kPair_ap : kPair h x = (x, h) := rfl
@[simp] theorem kIdx_ap (i : E) : kIdx g cf i env (x, h) = (evE g cf i env h).bind (kIdx2 x) := rfl
@[simp] theorem kIdx2_ap : kIdx2 x (y, h) = (atM h x y).map (kPair h) := rfl
@[simp] theorem kSl_ap (lo hi : E) : kSl g cf lo hi env (x, h) = (evE g cf lo env h).bind (kSl2 g cf lo hi env x) := rfl
@[simp] theorem kSl2_ap (lo hi : E) : kSl2 g cf lo hi env x (l, h) = (evE g cf hi env h).bind (kSl3 lo hi x l) := rfl
@[simp] theorem kSl3_ap (lo hi : E) : kSl3 lo hi x l (u, h) = (partM lo.isNon l).bind fun i => (partM hi.isNon u).bind fun j => sliceM h x i j := rfl
@[simp] theorem kCall_ap (f : Str) : kCall cf f (xs, h) = cf f xs h := rfl
@[simp] theorem kBi_ap (f : Bi) : kBi f (xs, h) = biM f h xs := rfl
@[simp] theorem kIsi_ap (t : TyN) : kIsi t (x, h) = (isiM h x t).map (kBl h) := rfl
@[simp] theorem kMe_ap (m : Me) (es : List E) : kMe g cf m es env (x, h) = (evEs g cf es env h).bind (kMe2 m x) := rfl
@[simp] theorem kMe2_ap (m : Me) : kMe2 m x (xs, h) = methM m h x xs := rfl
@[simp] theorem kNew_ap : kNew (xs, h) = (.ref h.length, h ++ [.lst xs]) := rfl
@[simp] theorem kComp_ap (elt : E) (t : Tg) (k : IK) (cs : List E) (own : List (Str × Nat)) (h0 : MH) : kComp g cf elt t k cs own env h0 (xs, h) = (itsG k h0 (xs, h)).bind (kComp2 g cf elt t cs own env) := rfl
@[simp] theorem kComp2_ap (elt : E) (t : Tg) (cs : List E) (own : List (Str × Nat)) (st : Its) : kComp2 g cf elt t cs own env (st, h) = (compL t st (wipeM env (own.map (·.2))) (cTst g cf cs) (cElt g cf elt) st.items [] h).map kNew := rfl
@[simp] theorem kRg1_ap : kRg .rng1 (xs, h) = (itsM .rng1 h xs).map (kRg2 h) := rfl
@[simp] theorem kRg2_ap' : kRg .rng2 (xs, h) = (itsM .rng2 h xs).map (kRg2 h) := rfl
@[simp] theorem kRg2_ap (st : Its) : kRg2 h st = (.ref h.length, h ++ [.lst st.items]) := rfl
@[simp] theorem negM_int (i : Int) : negM (.int i, h) = some (.int (-i), h) := rfl
@[simp] theorem mx1 (m : Int) : 0 < mx m 1 := by unfold mx; split <;> omega
@[simp] theorem mx2 (m : Int) : 0 < mx m 2 := by unfold mx; split <;> omega
theorem log_small {n : Nat} (h : n ≤ 16777216) : n.log2 < 9000 := by
  by_cases h0 : n = 0
  · subst h0; decide
  · exact Nat.lt_of_lt_of_le ((Nat.log2_lt h0).mpr (show n < 2 ^ 25 by omega)) (by decide)
theorem mx2_log {m : Int} (h : m ≤ 16777216) : (mx m 2).natAbs.log2 < 9000 := by
  apply log_small
  unfold mx; split <;> omega
@[simp] theorem add_int (i j : Int) : binM .add h (.int i) (.int j) = some (.int (i + j), h) := rfl
@[simp] theorem sub_int (i j : Int) : binM .sub h (.int i) (.int j) = some (.int (i - j), h) := rfl
@[simp] theorem mul_r {i j : Int} (hj : -18446744073709551616 < j ∧ j < 18446744073709551616) : binM .mul h (.int i) (.int j) = some (.int (i * j), h) := by simp [binM, hj]
@[simp] theorem mul_l {i j : Int} (hj : -18446744073709551616 < i ∧ i < 18446744073709551616) : binM .mul h (.int i) (.int j) = some (.int (i * j), h) := by simp [binM, hj]
@[simp] theorem mod_int {i j : Int} (hj : 0 < j) : binM .mod h (.int i) (.int j) = some (.int (i % j), h) := by simp [binM, hj]
@[simp] theorem fdiv_int {i j : Int} (hj : 0 < j) (hl : j.natAbs.log2 < 9000) : binM .fdiv h (.int i) (.int j) = some (.int (i / j), h) := by simp [binM, hj, hl]
@[simp] theorem pow_18 : binM .pow h (.int 10) (.int 18) = some (.int 1000000000000000000, h) := by simp [binM]
theorem add_tup {a b : List MV} (hz : a.length + b.length ≤ LIM) : binM .add h (.tup a) (.tup b) = some (.tup (a ++ b), h) := by simp [binM]; omega
@[simp] theorem lt_int (i j : Int) : cmpM .lt h (.int i) (.int j) = some (decide (i < j)) := rfl
@[simp] theorem le_int (i j : Int) : cmpM .le h (.int i) (.int j) = some (decide (i ≤ j)) := rfl
@[simp] theorem gt_int (i j : Int) : cmpM .gt h (.int i) (.int j) = some (decide (j < i)) := rfl
@[simp] theorem ge_int (i j : Int) : cmpM .ge h (.int i) (.int j) = some (decide (j ≤ i)) := rfl
@[simp] theorem eqM_int (a b : Int) : eqM (.int a) (.int b) = some (a == b) := by
  simp [eqM, toD, SeqAt.shaped, PyData.canLay0, PyData.depth, PyData.eqv]
@[simp] theorem eqM_bl (a b : Bool) : eqM (.bl a) (.bl b) = some (a == b) := by
  simp [eqM, toD, SeqAt.shaped, PyData.canLay0, PyData.depth, PyData.eqv]
theorem eqM_str (a b : Str) (ha : PyData.strOk a = true) (hb : PyData.strOk b = true) : eqM (.str a) (.str b) = some (a == b) := by
  simp [eqM, toD, SeqAt.shaped, PyData.canLay0, PyData.depth, PyData.eqv, ha, hb]
@[simp] theorem eq_M : cmpM .eq h x y = eqM x y := rfl
@[simp] theorem ne_M : cmpM .ne h x y = (eqM x y).map (!·) := rfl
@[simp] theorem isN_non : cmpM .isN h .non .non = some true := rfl
@[simp] theorem isN_int (i : Int) : cmpM .isN h (.int i) .non = some false := rfl
@[simp] theorem isN_tup : cmpM .isN h (.tup xs) .non = some false := rfl
@[simp] theorem notN_non : cmpM .notN h .non .non = some false := rfl
@[simp] theorem notN_int (i : Int) : cmpM .notN h (.int i) .non = some true := rfl
@[simp] theorem notN_tup : cmpM .notN h (.tup xs) .non = some true := rfl
@[simp] theorem in_M : cmpM .isin h x y = inM h x y := rfl
@[simp] theorem notin_M : cmpM .notin h x y = (inM h x y).map (!·) := rfl
@[simp] theorem tr_bl (b : Bool) : truth h (.bl b) = some b := rfl
@[simp] theorem seq_tup : seqM h (.tup xs) = some xs := rfl
@[simp] theorem seq_frl : seqM h (.frl xs) = some xs := rfl
theorem seq_ref {p : Nat} (e : h[p]? = some (.lst xs)) : seqM h (.ref p) = some xs := by simp [seqM, e]
theorem lst_ref {p : Nat} (e : h[p]? = some (.lst xs)) : lstM h (.ref p) = some xs := by simp [lstM, e]
@[simp] theorem at_tup (j : Int) : atM h (.tup xs) (.int j) = L2.atI xs j := rfl
@[simp] theorem at_frl (j : Int) : atM h (.frl xs) (.int j) = L2.atI xs j := rfl
theorem at_ref {p : Nat} {j : Int} (e : h[p]? = some (.lst xs)) : atM h (.ref p) (.int j) = L2.atI xs j := by simp [atM, seqM, e]
@[simp] theorem bi_len : biM .len h [x] = lenM h [x] := rfl
@[simp] theorem len_tup : lenM h [.tup xs] = some (.int xs.length, h) := rfl
@[simp] theorem len_frl : lenM h [.frl xs] = some (.int xs.length, h) := rfl
theorem len_ref {p : Nat} (e : h[p]? = some (.lst xs)) : lenM h [.ref p] = some (.int xs.length, h) := by simp [lenM, seqM, e]
@[simp] theorem bi_int (i : Int) : biM .int h [.int i] = some (.int i, h) := rfl
@[simp] theorem bi_intb (i : Bool) : biM .int h [.bl i] = some (.int (if i = true then 1 else 0), h) := rfl
@[simp] theorem bi_abs (i : Int) : biM .abs h [.int i] = some (.int (ab i), h) := rfl
@[simp] theorem bi_max (i j : Int) : biM .max h [.int i, .int j] = some (.int (mx i j), h) := rfl
@[simp] theorem bi_min (i j : Int) : biM .min h [.int i, .int j] = some (.int (mn i j), h) := rfl
@[simp] theorem bi_list : biM .list h [x] = (seqM h x).map fun xs => (.ref h.length, h ++ [.lst xs]) := rfl
@[simp] theorem bi_tuple : biM .tuple h [x] = (seqM h x).map fun xs => (.tup xs, h) := rfl
@[simp] theorem bi_sum : biM .sum h [x] = (lstM h x).bind fun xs => (intsM xs).map fun ns => (.int ns.sum, h) := rfl
@[simp] theorem bi_all : biM .all h [x] = (lstM h x).bind fun xs => (blsM xs).map fun ns => (.bl (ns.all id), h) := rfl
@[simp] theorem bi_any : biM .any h [x] = (lstM h x).bind fun xs => (blsM xs).map fun ns => (.bl (ns.any id), h) := rfl
@[simp] theorem part_t : partM true x = some none := rfl
@[simp] theorem part_f (i : Int) : partM false (.int i) = some (some i) := rfl
@[simp] theorem nonN : E.isNon .non = true := rfl
@[simp] theorem nonI (i : Int) : E.isNon (.int i) = false := rfl
@[simp] theorem nonV (i : Nat) : E.isNon (.var i) = false := rfl
@[simp] theorem nonX (a b : E) : E.isNon (.idx a b) = false := rfl
@[simp] theorem nonB (o) (a b : E) : E.isNon (.bin o a b) = false := rfl
@[simp] theorem nonC (f) (es) : E.isNon (.call f es) = false := rfl
@[simp] theorem nonG (a : E) : E.isNon (.neg a) = false := rfl
@[simp] theorem slice_tup (l u : Option Int) : sliceM h (.tup xs) l u = some (.tup (cutM xs l u), h) := rfl
theorem slice_ref {p : Nat} {l u : Option Int} (e : h[p]? = some (.lst xs)) : sliceM h (.ref p) l u = some (.ref h.length, h ++ [.lst (cutM xs l u)]) := by simp [sliceM, e]
theorem append_ref {p : Nat} (e : h[p]? = some (.lst xs)) (hz : xs.length < LIM) : methM .append h (.ref p) [x] = some (.non, h.set p (.lst (xs ++ [x]))) := by
  have : appendM h p [x] = some (.non, h.set p (.lst (xs ++ [x]))) := by
    simp only [appendM, e]
    rw [if_pos hz]
  exact this
end
variable (g cf)
noncomputable def kSs (ss : List S) (o : Out) : Option Out := match o.fl with
  | .nx => evSs g cf ss o.env o.h
  | _ => some o
def kAsg2 (h : MH) (env : Env) : Out := ⟨.nx, env, h⟩
noncomputable def kAsg1 (t : Tg) (env : Env) (x : MV × MH) : Option Out := (bindT t x.1 env).map (kAsg2 x.2)
noncomputable def kAsg (t : Tg) (env : Env) (h : MH) (x : MV × MH) : Option Out := kAsg1 t env (gc h x)
def kHp (x : MV × MH) : MH := x.2
noncomputable def kSx3 (env : Env) (h : MH) (h' : MH) : Out := ⟨.nx, env, kHp (gc h (.non, h'))⟩
noncomputable def kSx2 (env : Env) (h : MH) (x y : MV) (z : MV × MH) : Option Out := (setM z.2 y z.1 x).map (kSx3 env h)
noncomputable def kSx1 (i : E) (env : Env) (h : MH) (x : MV) (y : MV × MH) : Option Out := (evE g cf i env y.2).bind (kSx2 env h x y.1)
noncomputable def kSx (o i : E) (env : Env) (h : MH) (x : MV × MH) : Option Out := (evE g cf o env x.2).bind (kSx1 g cf i env h x.1)
noncomputable def kAu2 (i : Nat) (env : Env) (x : MV × MH) : Out := ⟨.nx, env.set i (some x.1), x.2⟩
noncomputable def kAu3 (i : Nat) (env : Env) (h : MH) (y : MV × MH) : Out := kAu2 i env (gc h y)
noncomputable def kAu (i : Nat) (o : BOp) (v : MV) (env : Env) (h : MH) (x : MV × MH) : Option Out := (augM o x.2 v x.1).map (kAu3 i env h)
noncomputable def kEx (env : Env) (h : MH) (x : MV × MH) : Out := ⟨.nx, env, kHp (gc h (.non, x.2))⟩
def kRet1 (env : Env) (x : MV × MH) : Out := ⟨.rt x.1, env, x.2⟩
noncomputable def kRet (env : Env) (h : MH) (x : MV × MH) : Out := kRet1 env (gc h x)
noncomputable def kIte (a b : List S) (env : Env) (x : MV × MH) : Option Out := match x.1 with
    | .bl true => evSs g cf a env x.2
    | .bl false => evSs g cf b env x.2
    | _ => none
noncomputable def kTst2 (h h1 : MH) (b : Bool) : MV × MH := gc h (.bl b, h1)
noncomputable def kTst (h : MH) (x : MV × MH) : R := (truth x.2 x.1).map (kTst2 h x.2)
noncomputable def fBody (body : List S) : Env → MH → Option Out := fun e h => evSs g cf body e h
noncomputable def kFor (t : Tg) (body : List S) (env : Env) (q : Its × MH) : Option Out := forL t q.1 (fBody g cf body) q.1.items env q.2
noncomputable def kFor0 (t : Tg) (k : IK) (body : List S) (env : Env) (h : MH) (r : List MV × MH) : Option Out := (itsG k h r).bind (kFor g cf t body env)
variable {g cf}
section
variable (env : Env) (h : MH) (ss : List S)
@[simp] theorem evSs_nil : evSs g cf [] env h = some ⟨.nx, env, h⟩ := by simp only [evSs]
@[simp] theorem evSs_cons (s : S) : evSs g cf (s :: ss) env h = (evS g cf s env h).bind (kSs g cf ss) := by
  simp only [evSs]; congr
@[simp] theorem kSs_nx : kSs g cf ss ⟨.nx, env, h⟩ = evSs g cf ss env h := rfl
@[simp] theorem kSs_rt (v : MV) : kSs g cf ss ⟨.rt v, env, h⟩ = some ⟨.rt v, env, h⟩ := rfl
@[simp] theorem kSs_bk : kSs g cf ss ⟨.bk, env, h⟩ = some ⟨.bk, env, h⟩ := rfl
@[simp] theorem kSs_ct : kSs g cf ss ⟨.ct, env, h⟩ = some ⟨.ct, env, h⟩ := rfl
@[simp] theorem evS_asg (t : Tg) (e : E) : evS g cf (.asg t e) env h = (evE g cf e env h).bind (kAsg t env h) := by simp only [evS]; rfl
@[simp] theorem kAsg_ap (t : Tg) (x : MV × MH) : kAsg t env h x = kAsg1 t env (gc h x) := rfl
@[simp] theorem kAsg1_ap (t : Tg) (v : MV) : kAsg1 t env (v, h) = (bindT t v env).map (kAsg2 h) := rfl
@[simp] theorem kAsg2_ap : kAsg2 h env = ⟨.nx, env, h⟩ := rfl
@[simp] theorem evS_set (o i e : E) : evS g cf (.setIx o i e) env h = (evE g cf e env h).bind (kSx g cf o i env h) := by simp only [evS]; rfl
@[simp] theorem kSx_ap (o i : E) (v : MV) (h1 : MH) : kSx g cf o i env h (v, h1) = (evE g cf o env h1).bind (kSx1 g cf i env h v) := rfl
@[simp] theorem kSx1_ap (i : E) (v w : MV) (h1 : MH) : kSx1 g cf i env h v (w, h1) = (evE g cf i env h1).bind (kSx2 env h v w) := rfl
@[simp] theorem kSx2_ap (v w u : MV) (h1 : MH) : kSx2 env h v w (u, h1) = (setM h1 w u v).map (kSx3 env h) := rfl
@[simp] theorem kSx3_ap (h1 : MH) : kSx3 env h h1 = ⟨.nx, env, kHp (gc h (.non, h1))⟩ := rfl
@[simp] theorem kHp_ap (v : MV) : kHp (v, h) = h := rfl
@[simp] theorem evS_ex (e : E) : evS g cf (.ex e) env h = (evE g cf e env h).map (kEx env h) := by simp only [evS]; rfl
@[simp] theorem kEx_ap (v : MV) (h1 : MH) : kEx env h (v, h1) = ⟨.nx, env, kHp (gc h (.non, h1))⟩ := rfl
@[simp] theorem evS_ret (e : E) : evS g cf (.ret e) env h = (evE g cf e env h).map (kRet env h) := by simp only [evS]; rfl
@[simp] theorem kRet_ap (x : MV × MH) : kRet env h x = kRet1 env (gc h x) := rfl
@[simp] theorem kRet1_ap (v : MV) : kRet1 env (v, h) = ⟨.rt v, env, h⟩ := rfl
@[simp] theorem evS_retN : evS g cf .retN env h = some ⟨.rt .non, env, h⟩ := by simp only [evS]
@[simp] theorem evS_brk : evS g cf .brk env h = some ⟨.bk, env, h⟩ := by simp only [evS]
@[simp] theorem evS_cont : evS g cf .cont env h = some ⟨.ct, env, h⟩ := by simp only [evS]
@[simp] theorem evS_pass : evS g cf .pass env h = some ⟨.nx, env, h⟩ := by simp only [evS]
@[simp] theorem evS_ite (c : E) (a b : List S) : evS g cf (.ite c a b) env h = ((evE g cf c env h).bind (kTst h)).bind (kIte g cf a b env) := by
  simp only [evS, tstE]; rfl
@[simp] theorem kTst_ap (v : MV) (h1 : MH) : kTst h (v, h1) = (truth h1 v).map (kTst2 h h1) := rfl
@[simp] theorem kTst2_ap (h1 : MH) (b : Bool) : kTst2 h h1 b = gc h (.bl b, h1) := rfl
@[simp] theorem kIte_ap (a b : List S) (c : Bool) : kIte g cf a b env (.bl c, h) = if c = true then evSs g cf a env h else evSs g cf b env h := by cases c <;> rfl
@[simp] theorem evS_for (t : Tg) (k : IK) (es : List E) (body : List S) : evS g cf (.for_ t k es body) env h = (evEs g cf es env h).bind (kFor0 g cf t k body env h) := by
  simp only [evS, evI]; cases evEs g cf es env h <;> rfl
@[simp] theorem kFor0_ap (t : Tg) (k : IK) (body : List S) (xs : List MV) (h1 : MH) : kFor0 g cf t k body env h (xs, h1) = (itsG k h (xs, h1)).bind (kFor g cf t body env) := rfl
@[simp] theorem kFor_ap (t : Tg) (body : List S) (st : Its) : kFor g cf t body env (st, h) = forL t st (fBody g cf body) st.items env h := rfl
theorem evS_aug {i : Nat} {o : BOp} {e : E} {v : MV} (hv : env[i]? = some (some v)) : evS g cf (.aug i o e) env h = (evE g cf e env h).bind (kAu i o v env h) := by simp only [evS, hv]; rfl
@[simp] theorem kAu_ap (i : Nat) (o : BOp) (v w : MV) (h1 : MH) : kAu i o v env h (w, h1) = (augM o h1 v w).map (kAu3 i env h) := rfl
@[simp] theorem kAu3_ap (i : Nat) (y : MV × MH) : kAu3 i env h y = kAu2 i env (gc h y) := rfl
@[simp] theorem kAu2_ap (i : Nat) (v : MV) : kAu2 i env (v, h) = ⟨.nx, env.set i (some v), h⟩ := rfl
@[simp] theorem aug_add (i j : Int) : augM .add h (.int i) (.int j) = some (.int (i + j), h) := rfl
@[simp] theorem aug_sub (i j : Int) : augM .sub h (.int i) (.int j) = some (.int (i - j), h) := rfl
@[simp] theorem bindT_nm (i : Nat) (v : MV) : bindT (.nm i) v env = some (env.set i (some v)) := by simp [bindT]
@[simp] theorem bindT_tup (ts : List Tg) (xs : List MV) : bindT (.tup ts) (.tup xs) env = bindTs ts xs env := by simp [bindT]
@[simp] theorem bindTs_nil : bindTs [] [] env = some env := by simp [bindTs]
@[simp] theorem bindTs_cons (t : Tg) (ts : List Tg) (x : MV) (xs : List MV) : bindTs (t :: ts) (x :: xs) env = (bindT t x env).bind (bindTs ts xs) := by
  rw [bindTs]
@[simp] theorem finR_rt (v : MV) (h0 : MH) : finR h0 ⟨.rt v, env, h⟩ = some (gc h0 (v, h)) := rfl
@[simp] theorem finR_nx (h0 : MH) : finR h0 ⟨.nx, env, h⟩ = some (gc h0 (.non, h)) := rfl
@[simp] theorem gc_same' (v : MV) (hv : v.data = true) : gc h (v, h) = (v, h) := gc_same hv
@[simp] theorem gc_app' (v : MV) (j : MH) (hv : v.data = true) : gc h (v, h ++ j) = (v, h) := gc_app hv
end
end
section
variable {g : Mod} {cf : Str → List MV → MH → R}
@[simp] theorem cTst_nil (e : Env) (h : MH) : cTst g cf [] e h = some (.bl true, h) := by simp only [cTst]
@[simp] theorem cTst_one (c : E) (e : Env) (h : MH) : cTst g cf [c] e h = (evE g cf c e h).bind (kTst h) := by simp only [cTst]; rfl
@[simp] theorem cElt_ap (c : E) (e : Env) (h : MH) : cElt g cf c e h = evE g cf c e h := by simp only [cElt]
@[simp] theorem fBody_ap (b : List S) (e : Env) (h : MH) : fBody g cf b e h = evSs g cf b e h := by simp only [fBody]
/-- a comprehension over things of one kind -/
theorem comp_T {α : Type} {i : Nat} {cs : List E} {elt : E} {env : Env} {h : MH} {st : Its} (emb : α → MV) (p : α → Bool) (f : α → MV) (as : List α) (hs : st.still h)
    (h1 : ∀ a ∈ as, cTst g cf cs ((env.set i none).set i (some (emb a))) h = some (.bl (p a), h))
    (h2 : ∀ a ∈ as, p a = true → ∃ j, cElt g cf elt ((env.set i none).set i (some (emb a))) h = some (f a, h ++ j) ∧ (f a).data = true) :
    compL (.nm i) st (wipeM env [i]) (cTst g cf cs) (cElt g cf elt) (as.map emb) [] h = some ((as.filter p).map f, h) := by
  have key : ∀ (as : List α) (acc : List MV), (∀ a ∈ as, cTst g cf cs ((env.set i none).set i (some (emb a))) h = some (.bl (p a), h)) → (∀ a ∈ as, p a = true → ∃ j, cElt g cf elt ((env.set i none).set i (some (emb a))) h = some (f a, h ++ j) ∧ (f a).data = true) →
      compL (.nm i) st (wipeM env [i]) (cTst g cf cs) (cElt g cf elt) (as.map emb) acc h = some (acc ++ (as.filter p).map f, h) := by
    intro as
    induction as with
    | nil => intro acc _ _; simp only [List.map_nil, compL, if_pos hs, List.filter_nil, List.append_nil]
    | cons a as ih =>
      intro acc q1 q2
      have e1 : bindT (.nm i) (emb a) (wipeM env [i]) = some ((env.set i none).set i (some (emb a))) := by simp only [bindT, wipeM]
      simp only [List.map_cons, compL, if_pos hs, e1, Option.bind_some, q1 a List.mem_cons_self]
      cases hp : p a with
      | true =>
        obtain ⟨j, e2, e3⟩ := q2 a List.mem_cons_self hp
        simp only [e2, Option.bind_some, gc_app e3]
        rw [ih _ (fun b hb => q1 b (List.mem_cons_of_mem _ hb)) fun b hb => q2 b (List.mem_cons_of_mem _ hb)]
        simp [hp]
      | false =>
        simp only
        rw [ih _ (fun b hb => q1 b (List.mem_cons_of_mem _ hb)) fun b hb => q2 b (List.mem_cons_of_mem _ hb)]
        simp [hp]
  have := key as [] h1 h2
  simpa using this
/-- every turn changes the state, each item gives one -/
theorem comp_S {α σ : Type} {i : Nat} {elt : E} {env : Env} {st : Its} (emb : α → MV) (hp : σ → MH) (f : α → σ → MV × σ) (hs : ∀ s, st.still (hp s)) : ∀ (as : List α) (acc : List MV) (s : σ),
    (∀ a ∈ as, ∀ s, ∃ r, cElt g cf elt ((env.set i none).set i (some (emb a))) (hp s) = some r ∧ gc (hp s) r = ((f a s).1, hp (f a s).2)) →
    compL (.nm i) st (wipeM env [i]) (cTst g cf []) (cElt g cf elt) (as.map emb) acc (hp s) = some ((as.foldl (fun q a => (q.1 ++ [(f a q.2).1], (f a q.2).2)) (acc, s)).1, hp (as.foldl (fun q a => (q.1 ++ [(f a q.2).1], (f a q.2).2)) (acc, s)).2)
  | [], acc, s, _ => by simp only [List.map_nil, compL, if_pos (hs s), List.foldl_nil]
  | a :: as, acc, s, q => by
    obtain ⟨r, e2, e3⟩ := q a List.mem_cons_self s
    have e1 : bindT (.nm i) (emb a) (wipeM env [i]) = some ((env.set i none).set i (some (emb a))) := by simp only [bindT, wipeM]
    simp only [List.map_cons, compL, if_pos (hs s), e1, Option.bind_some, cTst_nil, e2, e3]
    rw [comp_S emb hp f hs as _ _ fun b hb => q b (List.mem_cons_of_mem _ hb)]
    rfl
end
end MP
namespace MP
open PySem
structure Tape where
  place : Nat
  number : Int
  total : Int
/-- the heap of a law that has its tape: the script's copy, the tape, what else there is -/
def HT (xs : List Int) (t : Tape) (rest : List MO) : MH := .lst (xs.map .int) :: .lst [.ref 0, .int t.place, .int t.number, .int t.total] :: rest
def draw (xs : List Int) (t : Tape) (many : Int) : Int × Tape :=
  if t.number = 0 then
    let total := if (t.place : Int) < xs.length then t.total else (t.total * 48271 + t.place + 1) % 2147483647
    let number := if (t.place : Int) < xs.length then ab (xs.getD t.place 0) else total
    if number < 1000000000000000000 then
      (((number * 48271 + t.place * 69621 + 5) % 2147483647 * 69621) % 2147483629 % mx many 1, { t with place := t.place + 1, total := total })
    else (number % mx many 1, { t with place := t.place + 1, total := total, number := number / mx many 2 })
  else (t.number % mx many 1, { t with number := t.number / mx many 2 })
def fnDraw : FnI := { np := 2, names := ["tape", "many", "place", "number"], body := [
  .ite (.cmp .eq (.idx (.var 0) (.int 2)) (.int 0)) [
    .asg (.nm 2) (.idx (.var 0) (.int 1)),
    .asg (.nm 3) (.int 0),
    .ite (.cmp .lt (.var 2) (.bi .len [.idx (.var 0) (.int 0)])) [
      .asg (.nm 3) (.bi .abs [.bi .int [.idx (.idx (.var 0) (.int 0)) (.var 2)]])] [
      .setIx (.var 0) (.int 3) (.bin .mod (.bi .int [.bin .add (.bin .add (.bin .mul (.idx (.var 0) (.int 3)) (.int 48271)) (.var 2)) (.int 1)]) (.int 2147483647)),
      .asg (.nm 3) (.idx (.var 0) (.int 3))],
    .setIx (.var 0) (.int 1) (.bin .add (.var 2) (.int 1)),
    .ite (.cmp .lt (.var 3) (.bin .pow (.int 10) (.int 18))) [
      .asg (.nm 3) (.bin .mod (.bi .int [.bin .add (.bin .add (.bin .mul (.var 3) (.int 48271)) (.bin .mul (.var 2) (.int 69621))) (.int 5)]) (.int 2147483647)),
      .asg (.nm 3) (.bin .mod (.bi .int [.bin .mul (.var 3) (.int 69621)]) (.int 2147483629)),
      .ret (.bin .mod (.bi .int [.var 3]) (.bi .max [.var 1, .int 1]))] [],
    .setIx (.var 0) (.int 2) (.var 3)] [],
  .asg (.nm 3) (.idx (.var 0) (.int 2)),
  .setIx (.var 0) (.int 2) (.bin .fdiv (.var 3) (.bi .max [.var 1, .int 2])),
  .ret (.bin .mod (.bi .int [.var 3]) (.bi .max [.var 1, .int 1]))] }
def fnTape : FnI := { np := 1, names := ["script", "total", "cell"], body := [
  .asg (.nm 1) (.int 7),
  .for_ (.nm 2) .ex [.var 0] [
    .asg (.nm 1) (.bin .mod (.bi .int [.bin .add (.bin .mul (.var 1) (.int 31)) (.bi .abs [.bi .int [.var 2]])]) (.int 2147483647))],
  .ret (.lst [.bi .list [.var 0], .int 0, .int 0, .var 1])] }
section
variable (xs : List Int) (t t' : Tape) (r : List MO)
/-- what is let go behind a tape's heap -/
theorem gcHT {r' j : List MO} {v : MV} (hl : r'.length = r.length) (ho : ∀ (i : Nat) (o : MO), r'[i]? = some o → r[i]? = some o ∨ o.lt (r.length + 2)) (hv : v.lt (r.length + 2)) : gc (HT xs t r) (v, HT xs t' (r' ++ j)) = (v, HT xs t' r') := by
  have := gc_upd (h := HT xs t r) (h' := HT xs t' r') (j := j) (v := v) (by simp [HT, hl]) (fun i o hi q => by
    cases i with
    | zero => left; simpa [HT] using q
    | succ i =>
      cases i with
      | zero =>
        right
        simp [HT] at q
        subst q
        unfold MO.lt
        simp only [ltAll, MV.lt, HT, List.length_cons]
        exact ⟨by omega, True.intro, True.intro, True.intro, True.intro⟩
      | succ i =>
        have q' : r'[i]? = some o := by simpa [HT] using q
        rcases ho i o q' with w | w
        · left; simpa [HT] using w
        · right; exact w) hv
  simpa [HT] using this
theorem gcHT_lst {r' j : List MO} {i : Nat} {o : MO} (hl : r'.length = r.length) (ho : ∀ (i : Nat) (o : MO), r'[i]? = some o → r[i]? = some o ∨ o.lt (r.length + 2)) (hj : j[i]? = some o) (hlt : o.lt (r.length + 2)) :
    gc (HT xs t r) (.ref (r.length + 2 + i), HT xs t' (r' ++ j)) = (.ref (r.length + 2), HT xs t' (r' ++ [o])) := by
  have := gc_lst (h := HT xs t r) (h' := HT xs t' r') (j := j) (i := i) (o := o) (by simp [HT, hl]) (fun i o hi q => by
    cases i with
    | zero => left; simpa [HT] using q
    | succ i =>
      cases i with
      | zero =>
        right
        simp [HT] at q
        subst q
        unfold MO.lt
        simp only [ltAll, MV.lt, HT, List.length_cons]
        exact ⟨by omega, True.intro, True.intro, True.intro, True.intro⟩
      | succ i =>
        have q' : r'[i]? = some o := by simpa [HT] using q
        rcases ho i o q' with w | w
        · left; simpa [HT] using w
        · right; exact w) hj hlt
  simpa [HT] using this
@[simp] theorem HTlen : (HT xs t r).length = r.length + 2 := by simp [HT]
@[simp] theorem HTapp (j : List MO) : HT xs t r ++ j = HT xs t (r ++ j) := by simp [HT]
theorem HT0 : (HT xs t r)[0]? = some (.lst (xs.map .int)) := by simp [HT]
theorem HT1 : (HT xs t r)[1]? = some (.lst [.ref 0, .int t.place, .int t.number, .int t.total]) := by simp [HT]
@[simp] theorem HTn (i : Nat) : (HT xs t r)[i + 2]? = r[i]? := by simp [HT]
@[simp] theorem HTset (i : Nat) (o : MO) : (HT xs t r).set (i + 2) o = HT xs t (r.set i o) := by simp [HT]
@[simp] theorem gcH0 (v : MV) (hv : v.data = true) : gc (HT xs t r) (v, HT xs t' r) = (v, HT xs t' r) := by
  have := gcHT xs t t' r (r' := r) (j := []) rfl (fun i o q => .inl q) (lt_data hv)
  simpa using this
@[simp] theorem gcHj (v : MV) (j : List MO) (hv : v.data = true) : gc (HT xs t r) (v, HT xs t' (r ++ j)) = (v, HT xs t' r) :=
  gcHT xs t t' r (r' := r) (j := j) rfl (fun i o q => .inl q) (lt_data hv)
@[simp] theorem at_T0 : atM (HT xs t r) (.ref 1) (.int 0) = some (.ref 0) := by rw [at_ref _ _ (HT1 xs t r)]; simp [L2.atI, L2.ixN]
@[simp] theorem at_T1 : atM (HT xs t r) (.ref 1) (.int 1) = some (.int t.place) := by rw [at_ref _ _ (HT1 xs t r)]; simp [L2.atI, L2.ixN]
@[simp] theorem at_T2 : atM (HT xs t r) (.ref 1) (.int 2) = some (.int t.number) := by rw [at_ref _ _ (HT1 xs t r)]; simp [L2.atI, L2.ixN]
@[simp] theorem at_T3 : atM (HT xs t r) (.ref 1) (.int 3) = some (.int t.total) := by rw [at_ref _ _ (HT1 xs t r)]; simp [L2.atI, L2.ixN]
theorem at_Tx (h : (t.place : Int) < xs.length) : atM (HT xs t r) (.ref 0) (.int t.place) = some (.int (xs.getD t.place 0)) := by
  rw [at_ref _ _ (HT0 xs t r)]
  unfold L2.atI L2.ixN
  rw [if_pos (by omega), List.length_map, if_pos h]
  have h' : t.place < xs.length := by omega
  simp [List.getElem?_eq_getElem h']
@[simp] theorem len_T : lenM (HT xs t r) [.ref 0] = some (.int xs.length, HT xs t r) := by
  rw [len_ref _ _ (HT0 xs t r), List.length_map]
theorem set_T1 (n : Nat) : setM (HT xs t r) (.ref 1) (.int 1) (.int ((n : Int) + 1)) = some (HT xs { t with place := n + 1 } r) := by
  simp [setM, HT, L2.ixN]
@[simp] theorem set_T2 (i : Int) : setM (HT xs t r) (.ref 1) (.int 2) (.int i) = some (HT xs { t with number := i } r) := by
  simp [setM, HT, L2.ixN]
@[simp] theorem set_T3 (i : Int) : setM (HT xs t r) (.ref 1) (.int 3) (.int i) = some (HT xs { t with total := i } r) := by
  simp [setM, HT, L2.ixN]
end
theorem run_draw {g : Mod} {k : Nat} (hf : g.fns.lookup ("_law_draw" : Str) = some fnDraw) (xs : List Int) (t : Tape) (rest : List MO) (many : Int) (hm : many ≤ 16777216) :
    run g (k + 1) "_law_draw" [.ref 1, .int many] (HT xs t rest) = some (.int (draw xs t many).1, HT xs (draw xs t many).2 rest) := by
  rw [run_def hf rfl]
  unfold fnDraw draw
  by_cases h0 : t.number = 0
  · by_cases h1 : (t.place : Int) < xs.length
    · by_cases h2 : ab (xs.getD t.place 0) < 1000000000000000000
      · simp -implicitDefEqProofs [h0, h1, at_Tx xs t _ h1, set_T1, -List.getD_eq_getElem?_getD, h2]
      · simp -implicitDefEqProofs [h0, h1, at_Tx xs t _ h1, set_T1, -List.getD_eq_getElem?_getD, h2, mx2_log hm]
    · by_cases h2 : (t.total * 48271 + t.place + 1) % 2147483647 < 1000000000000000000
      · simp -implicitDefEqProofs [h0, h1, set_T1, -List.getD_eq_getElem?_getD, h2]
      · simp -implicitDefEqProofs [h0, h1, set_T1, -List.getD_eq_getElem?_getD, h2, mx2_log hm]
  · simp -implicitDefEqProofs [h0, mx2_log hm]
theorem draw_lt (xs : List Int) (t : Tape) (many : Int) : 0 ≤ (draw xs t many).1 ∧ (draw xs t many).1 < mx many 1 := by
  have p := mx1 many
  have key : ∀ x : Int, 0 ≤ x % mx many 1 ∧ x % mx many 1 < mx many 1 := fun x => ⟨Int.emod_nonneg _ (by omega), Int.emod_lt_of_pos _ p⟩
  unfold draw
  split
  · simp only
    split <;> split <;> exact key _
  · exact key _
theorem run_tape {g : Mod} {k : Nat} (hf : g.fns.lookup ("_law_tape" : Str) = some fnTape) (xs : List Int) :
    ∃ total, run g (k + 1) "_law_tape" [.frl (xs.map .int)] [] = some (.ref 1, HT xs ⟨0, 0, total⟩ []) := by
  rw [run_def hf rfl]
  unfold fnTape
  let en : Int × Option MV → Env := fun a => [some (.frl (xs.map .int)), some (.int a.1), a.2]
  let s : Int × Option MV → MV → Int × Option MV := fun a v => match v with
    | .int i => ((a.1 * 31 + ab i) % 2147483647, some v)
    | _ => a
  have loop := forL_st (tgt := .nm 2) (st := ⟨xs.map .int, none⟩) (body := fBody g (run g k) [.asg (.nm 1) (.bin .mod (.bi .int [.bin .add (.bin .mul (.var 1) (.int 31)) (.bi .abs [.bi .int [.var 2]])]) (.int 2147483647))]) en (fun _ => []) s (fun _ => True) (fun _ _ => by unfold Its.still; trivial) (xs.map .int) (7, none) trivial (fun v hv a _ => by
    obtain ⟨i, _, rfl⟩ := List.mem_map.mp hv
    refine ⟨trivial, [some (.frl (xs.map .int)), some (.int a.1), some (.int i)], ⟨.nx, en (s a (.int i)), []⟩, by simp [en], ?_, .inl rfl, rfl, rfl⟩
    simp -implicitDefEqProofs [en, s])
  have fin : ∀ a, ∃ b, en a = [some (.frl (xs.map .int)), some (.int a.1), b] := fun a => ⟨a.2, rfl⟩
  obtain ⟨b, eb⟩ := fin ((xs.map MV.int).foldl s (7, none))
  refine ⟨((xs.map MV.int).foldl s (7, none)).1, ?_⟩
  have e0 : en (7, none) = [some (.frl (xs.map .int)), some (.int 7), none] := rfl
  rw [e0, eb] at loop
  have g1 : gc [] (MV.ref 1, [MO.lst (xs.map MV.int), MO.lst [MV.ref 0, MV.int 0, MV.int 0, MV.int ((xs.map MV.int).foldl s (7, none)).1]]) = (MV.ref 1, [MO.lst (xs.map MV.int), MO.lst [MV.ref 0, MV.int 0, MV.int 0, MV.int ((xs.map MV.int).foldl s (7, none)).1]]) := by
    unfold gc
    rw [if_pos ⟨Nat.zero_le _, fun i o hi _ => absurd hi (Nat.not_lt_zero _)⟩, if_neg (by unfold MV.lt; simp)]
    simp only [List.getElem?_cons_succ, List.getElem?_cons_zero]
    rw [if_neg]
    unfold MO.lt
    simp [ltAll, MV.lt]
  simp -implicitDefEqProofs [itsG, itsM, loop, g1, HT]
end MP
namespace MP
open PySem
theorem forL_rel {tgt : Tg} {st : Its} {body : Env → MH → Option Out} (I : List MV → Env → MH → Prop) (hs : ∀ xs e h, I xs e h → st.still h)
    (step : ∀ v vs e h, I (v :: vs) e h → ∃ e1 o, bindT tgt v e = some e1 ∧ body e1 h = some o ∧ (o.fl = .nx ∨ o.fl = .ct) ∧ I vs o.env o.h) : ∀ xs e h, I xs e h → ∃ e' h', forL tgt st body xs e h = some ⟨.nx, e', h'⟩ ∧ I [] e' h'
  | [], e, h, i => ⟨e, h, by simp only [forL, if_pos (hs _ _ _ i)], i⟩
  | v :: vs, e, h, i => by
    obtain ⟨e1, o, q1, q2, q3, q4⟩ := step v vs e h i
    obtain ⟨e', h', p1, p2⟩ := forL_rel I hs step vs o.env o.h q4
    refine ⟨e', h', ?_, p2⟩
    simp only [forL, if_pos (hs _ _ _ i), q1, Option.bind_some, q2]
    rcases q3 with q3 | q3 <;> rw [q3] <;> exact p1
section
variable {α : Type}
@[simp] theorem getA0 (r : List α) (a : α) (j : List α) : (r ++ a :: j)[r.length]? = some a := by simp
@[simp] theorem getA1 (r : List α) (a b : α) (j : List α) : (r ++ a :: b :: j)[r.length + 1]? = some b := by simp
@[simp] theorem getA2 (r : List α) (a b c : α) (j : List α) : (r ++ a :: b :: c :: j)[r.length + 2]? = some c := by simp
@[simp] theorem getA3 (r : List α) (a b c d : α) (j : List α) : (r ++ a :: b :: c :: d :: j)[r.length + 3]? = some d := by simp
@[simp] theorem setA0 (r : List α) (a x : α) (j : List α) : (r ++ a :: j).set r.length x = r ++ x :: j := by simp
@[simp] theorem setA1 (r : List α) (a b x : α) (j : List α) : (r ++ a :: b :: j).set (r.length + 1) x = r ++ a :: x :: j := by simp
@[simp] theorem setA2 (r : List α) (a b c x : α) (j : List α) : (r ++ a :: b :: c :: j).set (r.length + 2) x = r ++ a :: b :: x :: j := by simp
end
theorem atI_nn {α : Type} {ys : List α} {d : Int} (z : α) (h0 : 0 ≤ d) (h1 : d < ys.length) : L2.atI ys d = some (ys.getD d.toNat z) := by
  unfold L2.atI L2.ixN
  have : d.toNat < ys.length := by omega
  rw [if_pos h0, if_pos h1]
  simp [List.getElem?_eq_getElem this]
theorem pop_ref {h : MH} {p : Nat} {ys : List MV} {d : Int} (e : h[p]? = some (.lst ys)) (h0 : 0 ≤ d) (h1 : d < ys.length) (hz : ys.length ≤ 16777216) : methM .pop h (.ref p) [.int d] = some (ys.getD d.toNat .non, h.set p (.lst (ys.eraseIdx d.toNat))) := by
  have h2 : d.toNat < ys.length := by omega
  have : popM h p [.int d] = some (ys.getD d.toNat .non, h.set p (.lst (ys.eraseIdx d.toNat))) := by
    simp only [popM, e]
    rw [if_pos (by omega)]
    unfold L2.ixN
    rw [if_pos h0, if_pos h1]
    simp [List.getElem?_eq_getElem h2]
  exact this
def fnPick : FnI := { np := 2, names := ["tape", "rows"], body := [
  .ret (.idx (.var 1) (.call "_law_draw" [.var 0, .bi .len [.var 1]]))] }
def fnTurns : FnI := { np := 2, names := ["tape", "many", "left", "turns", "k"], body := [
  .asg (.nm 2) (.lrng .rng1 [.var 1]),
  .asg (.nm 3) (.lst []),
  .for_ (.nm 4) .rng1 [.var 1] [
    .ex (.meth .append (.var 3) [.meth .pop (.var 2) [.call "_law_draw" [.var 0, .bi .len [.var 2]]]])],
  .ret (.slice (.var 3) .non (.idx (.lst [.var 1, .var 1, .int 1]) (.call "_law_draw" [.var 0, .int 3])))] }
def fnOrder : FnI := { np := 2, names := ["tape", "rows", "left", "out", "k"], body := [
  .asg (.nm 2) (.bi .list [.var 1]),
  .asg (.nm 3) (.lst []),
  .for_ (.nm 4) .rng1 [.bi .len [.var 1]] [
    .ex (.meth .append (.var 3) [.meth .pop (.var 2) [.call "_law_draw" [.var 0, .bi .len [.var 2]]]])],
  .ret (.var 3)] }
theorem mem_getD {α : Type} {ys : List α} {n : Nat} {z : α} (h : n < ys.length) : ys.getD n z ∈ ys := by
  rw [List.getD_eq_getElem?_getD, List.getElem?_eq_getElem h]
  exact List.getElem_mem h
theorem data_mem {ys : List MV} (h : dataAll ys = true) {y : MV} (hy : y ∈ ys) : y.data = true := dataAll_iff.mp h y hy
theorem draw_in (xs : List Int) (t : Tape) {α : Type} {ys : List α} (h : ys ≠ []) : 0 ≤ (draw xs t ys.length).1 ∧ (draw xs t ys.length).1 < ys.length := by
  have h1 := draw_lt xs t ys.length
  have h2 : 1 ≤ ys.length := List.length_pos_iff.mpr h
  unfold mx at h1
  split at h1 <;> omega
section
variable {g : Mod} {k : Nat} (hd : g.fns.lookup ("_law_draw" : Str) = some fnDraw)
include hd
def pickV (xs : List Int) (t : Tape) (ys : List MV) : MV := ys.getD (draw xs t ys.length).1.toNat .non
theorem pick_mem (xs : List Int) (t : Tape) {ys : List MV} (h : ys ≠ []) : pickV xs t ys ∈ ys := by
  have := draw_in xs t h
  exact mem_getD (by omega)
theorem run_pick (hf : g.fns.lookup ("_law_pick" : Str) = some fnPick) (xs : List Int) (t : Tape) (r : List MO) {p : Nat} {ys : List MV} (hp : r[p]? = some (.lst ys)) (hn : ys ≠ []) (hz : ys.length ≤ 16777216) (hy : dataAll ys = true) :
    run g (k + 2) "_law_pick" [.ref 1, .ref (p + 2)] (HT xs t r) = some (pickV xs t ys, HT xs (draw xs t ys.length).2 r) := by
  rw [run_def hf rfl]
  unfold fnPick
  have h1 := draw_in xs t hn
  have e1 : ∀ t, (HT xs t r)[p + 2]? = some (.lst ys) := fun t => by rw [HTn]; exact hp
  have e2 := run_draw (k := k) hd xs t r ys.length (by omega)
  have e3 := at_ref (HT xs (draw xs t ys.length).2 r) ys (j := (draw xs t ys.length).1) (e1 _)
  rw [atI_nn .non h1.1 h1.2] at e3
  have e4 : (pickV xs t ys).data = true := data_mem hy (pick_mem hd xs t hn)
  unfold pickV at e4
  simp -implicitDefEqProofs [len_ref _ _ (e1 t), e2, e3, pickV, -List.getD_eq_getElem?_getD, e4]
/-- the fresh list is picked from -/
theorem run_pickN (hf : g.fns.lookup ("_law_pick" : Str) = some fnPick) (xs : List Int) (t : Tape) (r j : List MO) {ys : List MV} (hn : ys ≠ []) (hz : ys.length ≤ 16777216) (hy : dataAll ys = true) :
    run g (k + 2) "_law_pick" [.ref 1, .ref (r.length + 2)] (HT xs t (r ++ .lst ys :: j)) = some (pickV xs t ys, HT xs (draw xs t ys.length).2 (r ++ .lst ys :: j)) :=
  run_pick hd hf xs t _ (by simp) hn hz hy
/-- the drawing loop of turns and order: each turn moves one item from left to out -/
theorem draw_loop {st : Its} (xs : List Int) (r : List MO) (b1 : Option MV) (hs2 : ∀ t l o, st.still (HT xs t (r ++ [.lst l, .lst o]))) (src : List MV) (hz : src.length ≤ 1000000) (hdat : dataAll src = true) :
    ∀ (its : List MV) (t : Tape) (l o : List MV) (y4 : Option MV), its.length = l.length → l.length + o.length ≤ src.length → (∀ y ∈ l, y ∈ src) → (∀ y ∈ o, y ∈ src) →
    ∃ t' o' y4', forL (.nm 4) st (fBody g (run g (k + 1)) [.ex (.meth .append (.var 3) [.meth .pop (.var 2) [.call "_law_draw" [.var 0, .bi .len [.var 2]]]])]) its
      [some (.ref 1), b1, some (.ref (r.length + 2)), some (.ref (r.length + 3)), y4] (HT xs t (r ++ [.lst l, .lst o])) =
      some ⟨.nx, [some (.ref 1), b1, some (.ref (r.length + 2)), some (.ref (r.length + 3)), y4'], HT xs t' (r ++ [.lst [], .lst o'])⟩ ∧ o'.length = l.length + o.length ∧ ∀ y ∈ o', y ∈ src
  | [], t, l, o, y4, h1, h2, h3, h4 => by
    have : l = [] := List.length_eq_zero_iff.mp h1.symm
    subst this
    refine ⟨t, o, y4, ?_, by simp, h4⟩
    simp only [forL, if_pos (hs2 _ _ _)]
  | v :: its, t, l, o, y4, h1, h2, h3, h4 => by
    have hl : l ≠ [] := fun z => by rw [z] at h1; simp at h1
    have d1 := draw_in xs t hl
    have e2 := run_draw (k := k) hd xs t (r ++ [.lst l, .lst o]) l.length (by omega)
    have hm : l.getD (draw xs t l.length).1.toNat .non ∈ l := mem_getD (by omega)
    have hdy : (l.getD (draw xs t l.length).1.toNat .non).data = true := data_mem hdat (h3 _ hm)
    have el : (l.eraseIdx (draw xs t l.length).1.toNat).length = l.length - 1 := by rw [List.length_eraseIdx_of_lt (by omega)]
    have hpos : 1 ≤ l.length := List.length_pos_iff.mpr hl
    obtain ⟨t', o', y', p1, p2, p3⟩ := draw_loop xs r b1 hs2 src hz hdat its (draw xs t l.length).2 (l.eraseIdx (draw xs t l.length).1.toNat) (o ++ [l.getD (draw xs t l.length).1.toNat .non]) (some v)
      (by rw [el]; simp only [List.length_cons] at h1; omega) (by rw [el, List.length_append]; simp only [List.length_cons, List.length_nil]; omega) (fun y hy => h3 y (List.mem_of_mem_eraseIdx hy)) (fun y hy => by
        rcases List.mem_append.mp hy with w | w
        · exact h4 y w
        · rw [List.mem_singleton.mp w]; exact h3 _ hm)
    refine ⟨t', o', y', ?_, by rw [p2, el, List.length_append]; simp only [List.length_cons, List.length_nil]; omega, p3⟩
    have f1 := pop_ref (h := HT xs (draw xs t l.length).2 (r ++ [.lst l, .lst o])) (p := r.length + 2) (ys := l) (d := (draw xs t l.length).1) (by rw [HTn]; simp) d1.1 d1.2 (by omega)
    have f2 := append_ref (HT xs (draw xs t l.length).2 (r ++ [.lst (l.eraseIdx (draw xs t l.length).1.toNat), .lst o])) (l.getD (draw xs t l.length).1.toNat .non) o (p := r.length + 3) (by rw [show r.length + 3 = (r.length + 1) + 2 from rfl, HTn]; exact getA1 _ _ _ _) (by show o.length < 16777216; omega)
    have f3 := len_ref (HT xs t (r ++ [.lst l, .lst o])) l (p := r.length + 2) (by rw [HTn]; simp)
    have s1 : (HT xs (draw xs t l.length).2 (r ++ [MO.lst l, MO.lst o])).set (r.length + 2) (.lst (l.eraseIdx (draw xs t l.length).1.toNat)) = HT xs (draw xs t l.length).2 (r ++ [.lst (l.eraseIdx (draw xs t l.length).1.toNat), .lst o]) := by rw [HTset]; simp
    have s2 : (HT xs (draw xs t l.length).2 (r ++ [MO.lst (l.eraseIdx (draw xs t l.length).1.toNat), MO.lst o])).set (r.length + 3) (.lst (o ++ [l.getD (draw xs t l.length).1.toNat .non])) = HT xs (draw xs t l.length).2 (r ++ [.lst (l.eraseIdx (draw xs t l.length).1.toNat), .lst (o ++ [l.getD (draw xs t l.length).1.toNat .non])]) := by
      rw [show r.length + 3 = (r.length + 1) + 2 from rfl, HTset]; exact congrArg _ (setA1 _ _ _ _ _)
    have hol : dataAll l = true := dataAll_iff.mpr fun y hy => data_mem hdat (h3 y hy)
    have hoo : dataAll o = true := dataAll_iff.mpr fun y hy => data_mem hdat (h4 y hy)
    have hoe : dataAll (l.eraseIdx (draw xs t l.length).1.toNat) = true := dataAll_iff.mpr fun y hy => data_mem hol (List.mem_of_mem_eraseIdx hy)
    have f4 : gc (HT xs t (r ++ [.lst l, .lst o])) (.non, HT xs (draw xs t l.length).2 (r ++ [.lst (l.eraseIdx (draw xs t l.length).1.toNat), .lst (o ++ [l.getD (draw xs t l.length).1.toNat .non])])) = (.non, HT xs (draw xs t l.length).2 (r ++ [.lst (l.eraseIdx (draw xs t l.length).1.toNat), .lst (o ++ [l.getD (draw xs t l.length).1.toNat .non])])) := by
      have := gcHT xs t (draw xs t l.length).2 (r ++ [.lst l, .lst o]) (r' := r ++ [.lst (l.eraseIdx (draw xs t l.length).1.toNat), .lst (o ++ [l.getD (draw xs t l.length).1.toNat .non])]) (j := []) (v := .non) (by simp) (fun i x q => by
        by_cases hi : i < r.length
        · left
          rw [List.getElem?_append_left hi] at q ⊢
          exact q
        · right
          rw [List.getElem?_append_right (by omega)] at q
          have hx : ∃ ys, x = .lst ys ∧ dataAll ys = true := by
            cases hj : i - r.length with
            | zero => rw [hj] at q; simp at q; exact ⟨_, q.symm, hoe⟩
            | succ j =>
              rw [hj] at q
              cases j with
              | zero => simp at q; exact ⟨_, q.symm, by rw [← List.getD_eq_getElem?_getD, dataAll_append, hoo, dataAll_cons, hdy, dataAll_nil]; rfl⟩
              | succ j => simp at q
          obtain ⟨ys, rfl, hys⟩ := hx
          exact lt_dataAll hys) (by unfold MV.lt; trivial)
      simpa using this
    simp only [forL, if_pos (hs2 _ _ _)]
    simp -implicitDefEqProofs [f3, e2, f1, s1, f2, s2, f4, -List.getD_eq_getElem?_getD]
    exact p1
theorem run_order (hf : g.fns.lookup ("_law_order" : Str) = some fnOrder) (xs : List Int) (t : Tape) (r : List MO) {p : Nat} {ys : List MV} (hp : r[p]? = some (.lst ys)) (hz : ys.length ≤ 1000000) (hy : dataAll ys = true) :
    ∃ t' zs, run g (k + 2) "_law_order" [.ref 1, .ref (p + 2)] (HT xs t r) = some (.ref (r.length + 2), HT xs t' (r ++ [.lst zs])) ∧ zs.length = ys.length ∧ ∀ z ∈ zs, z ∈ ys := by
  have e1 : ∀ t j, (HT xs t (r ++ j))[p + 2]? = some (.lst ys) := fun t j => by
    rw [HTn, List.getElem?_append_left (List.getElem?_eq_some_iff.mp hp).1]; exact hp
  have e0 : ∀ t, (HT xs t r)[p + 2]? = some (.lst ys) := fun t => by rw [HTn]; exact hp
  have hl : (ys.length : Int) ≤ LIM ∧ -(2 ^ 62) ≤ (ys.length : Int) := ⟨by show _ ≤ (16777216 : Int); omega, by omega⟩
  obtain ⟨t', zs, y4, q1, q2, q3⟩ := draw_loop (k := k) hd (st := ⟨(List.range (ys.length : Int).toNat).map fun i => MV.int ((i : Nat) : Int), none⟩) xs r (some (.ref (p + 2))) (fun _ _ _ => by unfold Its.still; trivial) ys hz hy ((List.range (ys.length : Int).toNat).map fun i => MV.int ((i : Nat) : Int)) t ys [] none (by simp) (by simp) (fun y h => h) (fun y h => by simp at h)
  refine ⟨t', zs, ?_, by simpa using q2, q3⟩
  have dz : dataAll zs = true := dataAll_iff.mpr fun z hz => data_mem hy (q3 z hz)
  rw [run_def hf rfl]
  unfold fnOrder
  have g1 : gc (HT xs t r) (.ref (r.length + 2), HT xs t (r ++ [.lst ys])) = (.ref (r.length + 2), HT xs t (r ++ [.lst ys])) := by
    have := gcHT_lst xs t t r (r' := r) (j := [.lst ys]) (i := 0) (o := .lst ys) rfl (fun i o q => .inl q) rfl (lt_dataAll hy)
    simpa using this
  have g2 : gc (HT xs t (r ++ [.lst ys])) (.ref (r.length + 3), HT xs t (r ++ [.lst ys, .lst []])) = (.ref (r.length + 3), HT xs t (r ++ [.lst ys, .lst []])) := by
    have := gcHT_lst xs t t (r ++ [.lst ys]) (r' := r ++ [.lst ys]) (j := [.lst []]) (i := 0) (o := .lst []) rfl (fun i o q => .inl q) rfl (lt_dataAll rfl)
    simpa using this
  have g3 : gc (HT xs t' (r ++ [.lst [], .lst zs])) (.ref (r.length + 3), HT xs t' (r ++ [.lst [], .lst zs])) = (.ref (r.length + 3), HT xs t' (r ++ [.lst [], .lst zs])) := gc_self (by unfold MV.lt; simp)
  have g4 : gc (HT xs t r) (.ref (r.length + 3), HT xs t' (r ++ [.lst [], .lst zs])) = (.ref (r.length + 2), HT xs t' (r ++ [.lst zs])) := by
    have := gcHT_lst xs t t' r (r' := r) (j := [.lst [], .lst zs]) (i := 1) (o := .lst zs) rfl (fun i o q => .inl q) rfl (lt_dataAll dz)
    simpa using this
  have i1 : itsM .rng1 (HT xs t (r ++ [.lst ys, .lst []])) [.int ys.length] = some ⟨(List.range (ys.length : Int).toNat).map fun i => MV.int ((i : Nat) : Int), none⟩ := by
    simp only [itsM]; rw [if_pos hl]
  simp -implicitDefEqProofs [seq_ref _ _ (e0 t), g1, g2, len_ref _ _ (e1 t _), itsG, i1]
  simp only [Int.toNat_natCast] at q1
  rw [q1]
  simp -implicitDefEqProofs [g3, g4]
theorem run_turns (hf : g.fns.lookup ("_law_turns" : Str) = some fnTurns) (xs : List Int) (t : Tape) (r : List MO) (many : Nat) (hz : many ≤ 1000) :
    ∃ t' zs, run g (k + 2) "_law_turns" [.ref 1, .int many] (HT xs t r) = some (.ref (r.length + 2), HT xs t' (r ++ [.lst zs])) ∧ zs.length ≤ many ∧ ∀ z ∈ zs, ∃ i : Nat, i < many ∧ z = .int i := by
  let ys : List MV := (List.range many).map fun i => MV.int ((i : Nat) : Int)
  have hyl : ys.length = many := by simp [ys]
  have hy : dataAll ys = true := dataAll_iff.mpr fun y h => by
    obtain ⟨i, _, rfl⟩ := List.mem_map.mp h
    simp
  obtain ⟨t', zs, y4, q1, q2, q3⟩ := draw_loop (k := k) hd (st := ⟨ys, none⟩) xs r (some (.int many)) (fun _ _ _ => by unfold Its.still; trivial) ys (by omega) hy ys t ys [] none rfl (by simp) (fun y h => h) (fun y h => by simp at h)
  have dz : dataAll zs = true := dataAll_iff.mpr fun z hz => data_mem hy (q3 z hz)
  have hin : ∀ z ∈ zs, ∃ i : Nat, i < many ∧ z = .int i := fun z hz => by
    obtain ⟨i, hi, rfl⟩ := List.mem_map.mp (q3 z hz)
    exact ⟨i, by simpa using hi, rfl⟩
  have dr := draw_lt xs t' 3
  have e2 := run_draw (k := k) hd xs t' (r ++ [.lst [], .lst zs, .lst [.int many, .int many, .int 1]]) 3 (by decide)
  have hm3 : mx 3 1 = 3 := by unfold mx; decide
  rw [hm3] at dr
  let m : Int := [(many : Int), (many : Int), 1].getD (draw xs t' 3).1.toNat 0
  refine ⟨(draw xs t' 3).2, cutM zs none (some m), ?_, ?_, ?_⟩
  · rw [run_def hf rfl]
    unfold fnTurns
    have g1 : gc (HT xs t r) (.ref (r.length + 2), HT xs t (r ++ [.lst ys])) = (.ref (r.length + 2), HT xs t (r ++ [.lst ys])) := by
      have := gcHT_lst xs t t r (r' := r) (j := [.lst ys]) (i := 0) (o := .lst ys) rfl (fun i o q => .inl q) rfl (lt_dataAll hy)
      simpa using this
    have g2 : gc (HT xs t (r ++ [.lst ys])) (.ref (r.length + 3), HT xs t (r ++ [.lst ys, .lst []])) = (.ref (r.length + 3), HT xs t (r ++ [.lst ys, .lst []])) := by
      have := gcHT_lst xs t t (r ++ [.lst ys]) (r' := r ++ [.lst ys]) (j := [.lst []]) (i := 0) (o := .lst []) rfl (fun i o q => .inl q) rfl (lt_dataAll rfl)
      simpa using this
    have i1 : ∀ h : MH, itsM .rng1 h [.int many] = some ⟨ys, none⟩ := fun h => by
      simp only [itsM]; rw [if_pos ⟨by show (many : Int) ≤ 16777216; omega, by omega⟩]
      simp [ys]
    have a1 : atM (HT xs (draw xs t' 3).2 (r ++ [.lst [], .lst zs, .lst [.int many, .int many, .int 1]])) (.ref (r.length + 4)) (.int (draw xs t' 3).1) = some (.int m) := by
      rw [at_ref _ [.int many, .int many, .int 1] (by rw [show r.length + 4 = (r.length + 2) + 2 from rfl, HTn]; exact getA2 _ _ _ _ _)]
      have h3 : (draw xs t' 3).1 = 0 ∨ (draw xs t' 3).1 = 1 ∨ (draw xs t' 3).1 = 2 := by omega
      rcases h3 with h | h | h <;> simp [h, m, L2.atI, L2.ixN]
    have sl := slice_ref (HT xs (draw xs t' 3).2 (r ++ [.lst [], .lst zs, .lst [.int many, .int many, .int 1]])) zs (p := r.length + 3) (l := none) (u := some m) (by rw [show r.length + 3 = (r.length + 1) + 2 from rfl, HTn]; exact getA1 _ _ _ _)
    have dcut : dataAll (cutM zs none (some m)) = true := dataAll_iff.mpr fun z h => data_mem dz (List.mem_of_mem_drop (List.mem_of_mem_take h))
    have g3 : gc (HT xs t' (r ++ [.lst [], .lst zs])) (.ref (r.length + 5), HT xs (draw xs t' 3).2 (r ++ [.lst [], .lst zs, .lst [.int many, .int many, .int 1], .lst (cutM zs none (some m))])) = (.ref (r.length + 4), HT xs (draw xs t' 3).2 (r ++ [.lst [], .lst zs, .lst (cutM zs none (some m))])) := by
      have := gcHT_lst xs t' (draw xs t' 3).2 (r ++ [.lst [], .lst zs]) (r' := r ++ [.lst [], .lst zs]) (j := [.lst [.int many, .int many, .int 1], .lst (cutM zs none (some m))]) (i := 1) (o := .lst (cutM zs none (some m))) rfl (fun i o q => .inl q) rfl (lt_dataAll dcut)
      simpa using this
    have g4 : gc (HT xs t r) (.ref (r.length + 4), HT xs (draw xs t' 3).2 (r ++ [.lst [], .lst zs, .lst (cutM zs none (some m))])) = (.ref (r.length + 2), HT xs (draw xs t' 3).2 (r ++ [.lst (cutM zs none (some m))])) := by
      have := gcHT_lst xs t (draw xs t' 3).2 r (r' := r) (j := [.lst [], .lst zs, .lst (cutM zs none (some m))]) (i := 2) (o := .lst (cutM zs none (some m))) rfl (fun i o q => .inl q) rfl (lt_dataAll dcut)
      simpa using this
    simp -implicitDefEqProofs [itsG, i1, g1, g2, q1, e2, a1, sl, g3, g4]
  · have : (cutM zs none (some m)).length ≤ zs.length := cutM_len _ _ _
    simp at q2
    omega
  · intro z hz
    exact hin z (List.mem_of_mem_drop (List.mem_of_mem_take hz))
end
end MP
namespace MP
open PySem
/-- plain things, at most n deep -/
def pl : Nat → MV → Prop
  | _, .non => True
  | _, .bl _ => True
  | _, .int _ => True
  | _, .str x => PyData.strOk x = true
  | 0, .tup _ => False
  | n + 1, .tup xs => xs.length ≤ 1000000 ∧ ∀ x ∈ xs, pl n x
  | _, _ => False
theorem pl_data : ∀ {n : Nat} {v : MV}, pl n v → v.data = true
  | _, .non, _ => by simp
  | _, .bl _, _ => by simp
  | _, .int _, _ => by simp
  | _, .str _, _ => by simp
  | 0, .tup _, h => by simp [pl] at h
  | n + 1, .tup xs, h => by
    simp only [pl] at h
    rw [data_tup, dataAll_iff]
    exact fun x hx => pl_data (h.2 x hx)
  | 0, .frl _, h => by simp [pl] at h
  | n + 1, .frl _, h => by simp [pl] at h
  | 0, .ref _, h => by simp [pl] at h
  | n + 1, .ref _, h => by simp [pl] at h
def fnSame : FnI := { np := 2, names := ["told", "wanted", "k"], body := [
  .ite (.isi (.var 1) .tuple) [
    .ite (.or (.not (.isi (.var 0) .tuple)) (.cmp .ne (.bi .len [.var 0]) (.bi .len [.var 1]))) [
      .ret (.bl false)] [],
    .ret (.cmp .notin (.bl false) (.comp (.call "_law_same" [.idx (.var 0) (.var 2), .idx (.var 1) (.var 2)]) (.nm 2) .rng1 [.bi .len [.var 1]] [] [("k", 2)]))] [],
  .ite (.or (.cmp .isN (.var 1) (.non)) (.cmp .isN (.var 0) (.non))) [
    .ret (.and (.cmp .isN (.var 1) (.non)) (.cmp .isN (.var 0) (.non)))] [],
  .ite (.or (.cmp .ne (.isi (.var 0) .bool) (.isi (.var 1) .bool)) (.cmp .ne (.isi (.var 0) .str) (.isi (.var 1) .str))) [
    .ret (.bl false)] [],
  .ret (.and (.cmp .eq (.isi (.var 0) .int) (.isi (.var 1) .int)) (.cmp .eq (.var 0) (.var 1)))] }
section
variable (h : MH)
@[simp] theorem isN_bl (i : Bool) : cmpM .isN h (.bl i) .non = some false := rfl
@[simp] theorem isN_str (i : Str) : cmpM .isN h (.str i) .non = some false := rfl
@[simp] theorem notN_bl (i : Bool) : cmpM .notN h (.bl i) .non = some true := rfl
@[simp] theorem notN_str (i : Str) : cmpM .notN h (.str i) .non = some true := rfl
@[simp] theorem isi_non (t : TyN) : isiM h .non t = some false := by cases t <;> rfl
@[simp] theorem isi_bl (b : Bool) (t : TyN) : isiM h (.bl b) t = some (decide (t = .bool ∨ t = .int)) := by cases t <;> rfl
@[simp] theorem isi_int (b : Int) (t : TyN) : isiM h (.int b) t = some (decide (t = .int)) := by cases t <;> rfl
@[simp] theorem isi_str (b : Str) (t : TyN) : isiM h (.str b) t = some (decide (t = .str)) := by cases t <;> rfl
@[simp] theorem isi_tup (b : List MV) (t : TyN) : isiM h (.tup b) t = some (decide (t = .tuple)) := by cases t <;> rfl
end
/-- the walk of a range -/
theorem its_rng {h : MH} {n : Nat} (hn : n ≤ 16777216) (j : MH) : itsG .rng1 h ([.int n], h ++ j) = some (⟨(List.range n).map fun i => MV.int ((i : Nat) : Int), none⟩, h) := by
  unfold itsG
  simp only [itsM]
  rw [if_pos ⟨by show (n : Int) ≤ 16777216; omega, by omega⟩]
  simp
theorem its_rng0 {h : MH} {n : Nat} (hn : n ≤ 16777216) : itsG .rng1 h ([.int n], h) = some (⟨(List.range n).map fun i => MV.int ((i : Nat) : Int), none⟩, h) := by
  have := its_rng (h := h) hn []
  simpa using this
theorem its_tup {h : MH} {xs : List MV} (hx : dataAll xs = true) : itsG .ex h ([.tup xs], h) = some (⟨xs, none⟩, h) := by
  have : (MV.tup xs).data = true := by rw [data_tup]; exact hx
  simp [itsG, gc_same this, itsM]
theorem atI_nat {α : Type} {ys : List α} {n : Nat} (h : n < ys.length) : L2.atI ys (n : Int) = some ys[n] := by
  unfold L2.atI L2.ixN
  rw [if_pos (by omega), if_pos (by omega)]
  simp [List.getElem?_eq_getElem h]
section
variable {g : Mod}
theorem run_same (hf : g.fns.lookup ("_law_same" : Str) = some fnSame) : ∀ (n : Nat) (v : MV), pl n v → ∀ (k : Nat) (h : MH), run g (k + n + 1) "_law_same" [v, v] h = some (.bl true, h)
  | n, .non, _, k, h => by rw [run_def hf rfl]; unfold fnSame; simp -implicitDefEqProofs
  | n, .bl b, _, k, h => by rw [run_def hf rfl]; unfold fnSame; simp -implicitDefEqProofs
  | n, .int b, _, k, h => by rw [run_def hf rfl]; unfold fnSame; simp -implicitDefEqProofs
  | n, .str b, p, k, h => by
    have p' : PyData.strOk b = true := by cases n <;> simpa [pl] using p
    rw [run_def hf rfl]; unfold fnSame; simp -implicitDefEqProofs [eqM_str _ _ p' p']
  | 0, .tup xs, p, k, h => by simp [pl] at p
  | n + 1, .tup xs, p, k, h => by
    simp only [pl] at p
    have ih := fun x (hx : x ∈ xs) => run_same hf n x (p.2 x hx) k
    have lk := p.1
    show run g ((k + n + 1) + 1) _ _ _ = _
    rw [run_def hf rfl]; unfold fnSame
    have hda : dataAll xs = true := dataAll_iff.mpr fun x hx => pl_data (p.2 x hx)
    have key := comp_T (g := g) (cf := run g (k + n + 1)) (i := 2) (cs := []) (elt := .call "_law_same" [.idx (.var 0) (.var 2), .idx (.var 1) (.var 2)]) (env := [some (.tup xs), some (.tup xs), none]) (h := h) (st := ⟨(List.range xs.length).map fun i => MV.int ((i : Nat) : Int), none⟩)
      (fun i : Nat => MV.int (i : Int)) (fun _ => true) (fun _ => MV.bl true) (List.range xs.length) (by unfold Its.still; trivial) (fun a _ => by simp) (fun a ha _ => by
        have hlt : a < xs.length := by simpa using ha
        refine ⟨[], ?_, by simp⟩
        have e := ih _ (List.getElem_mem hlt) h
        simp -implicitDefEqProofs [atI_nat hlt, e])
    have ae : inM (h ++ [.lst (((List.range xs.length).filter fun _ => true).map fun _ => MV.bl true)]) (.bl false) (.ref h.length) = some false := by
      unfold inM seqM
      simp [flatM, eqF]
    simp -implicitDefEqProofs [its_rng0 (show xs.length ≤ 16777216 by omega), key, ae]
  | 0, .frl _, p, _, _ => by simp [pl] at p
  | n + 1, .frl _, p, _, _ => by simp [pl] at p
  | 0, .ref _, p, _, _ => by simp [pl] at p
  | n + 1, .ref _, p, _, _ => by simp [pl] at p
variable (hd : g.fns.lookup ("_law_draw" : Str) = some fnDraw)
include hd
theorem draw_ex (xs : List Int) (t : Tape) (many : Int) (h0 : 1 ≤ many) (hm : many ≤ 16777216) : ∃ (d : Nat) (t' : Tape), (d : Int) < many ∧ ∀ k r, run g (k + 1) "_law_draw" [.ref 1, .int many] (HT xs t r) = some (.int (d : Int), HT xs t' r) := by
  have q := draw_lt xs t many
  have hx : mx many 1 = many := by unfold mx; split <;> omega
  refine ⟨(draw xs t many).1.toNat, (draw xs t many).2, by omega, fun k r => ?_⟩
  rw [run_draw hd xs t r many hm, Int.toNat_of_nonneg q.1]
theorem pick_ex (hf : g.fns.lookup ("_law_pick" : Str) = some fnPick) (xs : List Int) (t : Tape) (ys : List MV) (hn : ys ≠ []) (hz : ys.length ≤ 16777216) (hy : dataAll ys = true) : ∃ (v : MV) (t' : Tape), v ∈ ys ∧ ∀ k r p, r[p]? = some (.lst ys) → run g (k + 2) "_law_pick" [.ref 1, .ref (p + 2)] (HT xs t r) = some (v, HT xs t' r) :=
  ⟨pickV xs t ys, (draw xs t ys.length).2, pick_mem hd xs t hn, fun k r p hp => run_pick hd hf xs t r hp hn hz hy⟩
/-- a pick of ints -/
theorem pick_int (hf : g.fns.lookup ("_law_pick" : Str) = some fnPick) (xs : List Int) (t : Tape) (ys : List Int) (hn : ys ≠ []) (hz : ys.length ≤ 16777216) : ∃ (v : Int) (t' : Tape), v ∈ ys ∧ ∀ k r, run g (k + 2) "_law_pick" [.ref 1, .ref (r.length + 2)] (HT xs t (r ++ [.lst (ys.map .int)])) = some (.int v, HT xs t' (r ++ [.lst (ys.map .int)])) := by
  obtain ⟨v, t', hv, hr⟩ := pick_ex hd hf xs t (ys.map .int) (by simpa using hn) (by simpa using hz) (by simp)
  obtain ⟨i, hi, rfl⟩ := List.mem_map.mp hv
  exact ⟨i, t', hi, fun k r => hr k _ _ (by simp)⟩
end
inductive Al {α β : Type} (Q : α → β → Prop) : List α → List β → Prop where
  | nil : Al Q [] []
  | cons {a b as bs} : Q a b → Al Q as bs → Al Q (a :: as) (b :: bs)
theorem Al.len {α β : Type} {Q : α → β → Prop} {as : List α} {bs : List β} (h : Al Q as bs) : bs.length = as.length := by
  induction h with
  | nil => rfl
  | cons _ _ ih => simp [ih]
theorem compL_rel {tgt : Tg} {st : Its} {env : Env} {tst elt : Env → MH → R} (I : MH → Prop) (Q : MV → MV → Prop) (hs : ∀ h, I h → st.still h) : ∀ (xs acc : List MV) (h : MH), I h →
    (∀ v ∈ xs, ∀ h, I h → ∃ e w h', bindT tgt v env = some e ∧ tst e h = some (.bl true, h) ∧ (∃ r, elt e h = some r ∧ gc h r = (w, h')) ∧ I h' ∧ Q v w) →
    ∃ ws h', compL tgt st env tst elt xs acc h = some (acc ++ ws, h') ∧ I h' ∧ Al Q xs ws
  | [], acc, h, hi, _ => ⟨[], h, by simp only [compL, if_pos (hs _ hi), List.append_nil], hi, .nil⟩
  | v :: vs, acc, h, hi, step => by
    obtain ⟨e, w, h1, e1, e2, ⟨r, e3, e4⟩, i1, q1⟩ := step v List.mem_cons_self h hi
    obtain ⟨ws, h', p1, p2, p3⟩ := compL_rel I Q hs vs (acc ++ [w]) h1 i1 fun u hu => step u (List.mem_cons_of_mem _ hu)
    refine ⟨w :: ws, h', ?_, p2, .cons q1 p3⟩
    simp only [compL, if_pos (hs _ hi), e1, Option.bind_some, e2, e3, e4]
    rw [p1]
    simp
end MP
namespace MP
open PySem
section
variable (h j : MH) (xs ys : List MV)
@[simp] theorem seq_new : seqM (h ++ .lst xs :: j) (.ref h.length) = some xs := seq_ref _ _ (by simp)
@[simp] theorem lst_new : lstM (h ++ .lst xs :: j) (.ref h.length) = some xs := lst_ref _ _ (by simp)
@[simp] theorem len_new : lenM (h ++ .lst xs :: j) [.ref h.length] = some (.int xs.length, h ++ .lst xs :: j) := len_ref _ _ (by simp)
@[simp] theorem at_new (i : Int) : atM (h ++ .lst xs :: j) (.ref h.length) (.int i) = L2.atI xs i := at_ref _ _ (by simp)
@[simp] theorem app_new (x : MV) (hz : xs.length < LIM) : methM .append (h ++ .lst xs :: j) (.ref h.length) [x] = some (.non, h ++ .lst (xs ++ [x]) :: j) := by
  rw [append_ref _ _ xs (by simp) hz, setA0]
@[simp] theorem seq_new1 (a : MO) : seqM (h ++ a :: .lst xs :: j) (.ref (h.length + 1)) = some xs := seq_ref _ _ (by simp)
@[simp] theorem lst_new1 (a : MO) : lstM (h ++ a :: .lst xs :: j) (.ref (h.length + 1)) = some xs := lst_ref _ _ (by simp)
@[simp] theorem len_new1 (a : MO) : lenM (h ++ a :: .lst xs :: j) [.ref (h.length + 1)] = some (.int xs.length, h ++ a :: .lst xs :: j) := len_ref _ _ (by simp)
theorem gc_new (hx : dataAll xs = true) : gc h (.ref h.length, h ++ .lst xs :: j) = (.ref h.length, h ++ [.lst xs]) := by
  have := gc_lst (h := h) (h' := h) (j := .lst xs :: j) (i := 0) (o := .lst xs) rfl (fun i o _ q => .inl q) rfl (lt_dataAll hx)
  simpa using this
theorem gc_set1 (v : MV) (hv : v.data = true) (hy : dataAll ys = true) : gc (h ++ [.lst xs]) (v, h ++ .lst ys :: j) = (v, h ++ [.lst ys]) := by
  have := gc_upd (h := h ++ [.lst xs]) (h' := h ++ [.lst ys]) (j := j) (v := v) (by simp) (fun i o hi q => by
    by_cases c : i < h.length
    · left
      rw [List.getElem?_append_left c] at q ⊢
      exact q
    · right
      rw [List.getElem?_append_right (by omega)] at q
      have : i - h.length = 0 := by simp at hi; omega
      rw [this] at q
      simp at q
      subst q
      exact lt_dataAll hy) (lt_data hv)
  simpa using this
theorem ints_map (is : List Int) : intsM (is.map .int) = some is := by
  induction is with
  | nil => rfl
  | cons i is ih => simp [intsM, ih]
theorem in_ints (i : Int) (is : List Int) : inM h (.int i) (.tup (is.map .int)) = some (is.any (· == i)) := by
  unfold inM
  have : (is.map MV.int).all flatM = true := by simp [flatM]
  simp only [seq_tup, Option.bind_some]
  rw [if_pos ⟨rfl, this⟩]
  congr 1
  clear this
  induction is with
  | nil => rfl
  | cons a is ih => simp [eqF] at ih ⊢; rw [ih]
end
end MP
namespace MP
open PySem
section
variable (xs : List Int) (t t' : Tape) (r j : List MO) (ys zs : List MV) (a b c : MO)
@[simp] theorem HTg0 : (HT xs t (r ++ a :: j))[r.length + 2]? = some a := by rw [HTn]; simp
@[simp] theorem HTg1 : (HT xs t (r ++ a :: b :: j))[r.length + 3]? = some b := by rw [show r.length + 3 = (r.length + 1) + 2 from rfl, HTn]; exact getA1 _ _ _ _
@[simp] theorem HTg2 : (HT xs t (r ++ a :: b :: c :: j))[r.length + 4]? = some c := by rw [show r.length + 4 = (r.length + 2) + 2 from rfl, HTn]; exact getA2 _ _ _ _ _
@[simp] theorem HTs0 (x : MO) : (HT xs t (r ++ a :: j)).set (r.length + 2) x = HT xs t (r ++ x :: j) := by rw [HTset]; simp
@[simp] theorem HTs1 (x : MO) : (HT xs t (r ++ a :: b :: j)).set (r.length + 3) x = HT xs t (r ++ a :: x :: j) := by rw [show r.length + 3 = (r.length + 1) + 2 from rfl, HTset]; exact congrArg _ (setA1 _ _ _ _ _)
@[simp] theorem HTs2 (x : MO) : (HT xs t (r ++ a :: b :: c :: j)).set (r.length + 4) x = HT xs t (r ++ a :: b :: x :: j) := by rw [show r.length + 4 = (r.length + 2) + 2 from rfl, HTset]; exact congrArg _ (setA2 _ _ _ _ _ _)
@[simp] theorem Hseq0 : seqM (HT xs t (r ++ .lst ys :: j)) (.ref (r.length + 2)) = some ys := seq_ref _ _ (HTg0 ..)
@[simp] theorem Hseq1 : seqM (HT xs t (r ++ a :: .lst ys :: j)) (.ref (r.length + 3)) = some ys := seq_ref _ _ (HTg1 ..)
@[simp] theorem Hseq2 : seqM (HT xs t (r ++ a :: b :: .lst ys :: j)) (.ref (r.length + 4)) = some ys := seq_ref _ _ (HTg2 ..)
@[simp] theorem Hlen0 : lenM (HT xs t (r ++ .lst ys :: j)) [.ref (r.length + 2)] = some (.int ys.length, HT xs t (r ++ .lst ys :: j)) := len_ref _ _ (HTg0 ..)
@[simp] theorem Hlen1 : lenM (HT xs t (r ++ a :: .lst ys :: j)) [.ref (r.length + 3)] = some (.int ys.length, HT xs t (r ++ a :: .lst ys :: j)) := len_ref _ _ (HTg1 ..)
@[simp] theorem Hat0 (i : Int) : atM (HT xs t (r ++ .lst ys :: j)) (.ref (r.length + 2)) (.int i) = L2.atI ys i := at_ref _ _ (HTg0 ..)
@[simp] theorem Hat1 (i : Int) : atM (HT xs t (r ++ a :: .lst ys :: j)) (.ref (r.length + 3)) (.int i) = L2.atI ys i := at_ref _ _ (HTg1 ..)
@[simp] theorem Happ0 (x : MV) (hz : ys.length < LIM) : methM .append (HT xs t (r ++ .lst ys :: j)) (.ref (r.length + 2)) [x] = some (.non, HT xs t (r ++ .lst (ys ++ [x]) :: j)) := by
  rw [append_ref _ _ ys (HTg0 ..) hz, HTs0]
@[simp] theorem Happ1 (x : MV) (hz : ys.length < LIM) : methM .append (HT xs t (r ++ a :: .lst ys :: j)) (.ref (r.length + 3)) [x] = some (.non, HT xs t (r ++ a :: .lst (ys ++ [x]) :: j)) := by
  rw [append_ref _ _ ys (HTg1 ..) hz, HTs1]
@[simp] theorem Hsl0 (l u : Option Int) : sliceM (HT xs t (r ++ .lst ys :: j)) (.ref (r.length + 2)) l u = some (.ref ((HT xs t (r ++ .lst ys :: j)).length), HT xs t (r ++ .lst ys :: (j ++ [.lst (cutM ys l u)]))) := by
  rw [slice_ref _ _ (HTg0 xs t r j (.lst ys)), HTapp]; simp
@[simp] theorem gcHj1 (v : MV) (hv : v.data = true) : gc (HT xs t (r ++ [a])) (v, HT xs t' (r ++ a :: j)) = (v, HT xs t' (r ++ [a])) := by
  have := gcHj xs t t' (r ++ [a]) v j hv
  simpa using this
@[simp] theorem gcHj2 (v : MV) (hv : v.data = true) : gc (HT xs t (r ++ [a, b])) (v, HT xs t' (r ++ a :: b :: j)) = (v, HT xs t' (r ++ [a, b])) := by
  have := gcHj xs t t' (r ++ [a, b]) v j hv
  simpa using this
@[simp] theorem gcHj3 (v : MV) (hv : v.data = true) : gc (HT xs t (r ++ [a, b, c])) (v, HT xs t' (r ++ a :: b :: c :: j)) = (v, HT xs t' (r ++ [a, b, c])) := by
  have := gcHj xs t t' (r ++ [a, b, c]) v j hv
  simpa using this
theorem gcHn (hy : dataAll ys = true) : gc (HT xs t r) (.ref (r.length + 2), HT xs t' (r ++ .lst ys :: j)) = (.ref (r.length + 2), HT xs t' (r ++ [.lst ys])) := by
  have := gcHT_lst xs t t' r (r' := r) (j := .lst ys :: j) (i := 0) (o := .lst ys) rfl (fun i o q => .inl q) rfl (lt_dataAll hy)
  simpa using this
/-- the second fresh one is kept -/
theorem gcHn1 (hy : dataAll ys = true) : gc (HT xs t r) (.ref (r.length + 3), HT xs t' (r ++ a :: .lst ys :: j)) = (.ref (r.length + 2), HT xs t' (r ++ [.lst ys])) := by
  have := gcHT_lst xs t t' r (r' := r) (j := a :: .lst ys :: j) (i := 1) (o := .lst ys) rfl (fun i o q => .inl q) rfl (lt_dataAll hy)
  simpa using this
theorem gcHn2 (hy : dataAll ys = true) : gc (HT xs t r) (.ref (r.length + 4), HT xs t' (r ++ a :: b :: .lst ys :: j)) = (.ref (r.length + 2), HT xs t' (r ++ [.lst ys])) := by
  have := gcHT_lst xs t t' r (r' := r) (j := a :: b :: .lst ys :: j) (i := 2) (o := .lst ys) rfl (fun i o q => .inl q) rfl (lt_dataAll hy)
  simpa using this
theorem gcHn01 (hy : dataAll ys = true) : gc (HT xs t (r ++ [a])) (.ref (r.length + 3), HT xs t' (r ++ a :: .lst ys :: j)) = (.ref (r.length + 3), HT xs t' (r ++ [a, .lst ys])) := by
  have := gcHn xs t t' (r ++ [a]) j ys hy
  simpa using this
@[simp] theorem HTg3 (d : MO) : (HT xs t (r ++ a :: b :: c :: d :: j))[r.length + 5]? = some d := by rw [show r.length + 5 = (r.length + 3) + 2 from rfl, HTn]; exact getA3 _ _ _ _ _ _
theorem gcHn11 (hy : dataAll ys = true) : gc (HT xs t (r ++ [a])) (.ref (r.length + 4), HT xs t' (r ++ a :: b :: .lst ys :: j)) = (.ref (r.length + 3), HT xs t' (r ++ [a, .lst ys])) := by
  have := gcHn1 xs t t' (r ++ [a]) j ys b hy
  simpa using this
theorem gcHn22 (d : MO) (hy : dataAll ys = true) : gc (HT xs t (r ++ [a, b])) (.ref (r.length + 6), HT xs t' (r ++ a :: b :: c :: d :: .lst ys :: j)) = (.ref (r.length + 4), HT xs t' (r ++ [a, b, .lst ys])) := by
  have := gcHn2 xs t t' (r ++ [a, b]) j ys c d hy
  simpa using this
theorem gcHn03 (hy : dataAll ys = true) : gc (HT xs t (r ++ [a, b, c])) (.ref (r.length + 5), HT xs t' (r ++ a :: b :: c :: .lst ys :: j)) = (.ref (r.length + 5), HT xs t' (r ++ [a, b, c, .lst ys])) := by
  have := gcHn xs t t' (r ++ [a, b, c]) j ys hy
  simpa using this
theorem its_ref {h h' : MH} {p : Nat} {v : MV} {h1 : MH} {ys : List MV} (e : gc h (v, h1) = (.ref p, h')) (e2 : h'[p]? = some (.lst ys)) : itsG .ex h ([v], h1) = some (⟨ys, some (p, ys)⟩, h') := by
  simp [itsG, e, itsM, e2]
theorem gc_new1 (h j : MH) (a : MO) (ys : List MV) (hy : dataAll ys = true) : gc h (.ref (h.length + 1), h ++ a :: .lst ys :: j) = (.ref h.length, h ++ [.lst ys]) := by
  have := gc_lst (h := h) (h' := h) (j := a :: .lst ys :: j) (i := 1) (o := .lst ys) rfl (fun i o _ q => .inl q) rfl (lt_dataAll hy)
  simpa using this
theorem add_ref {h : MH} {p q : Nat} {a b : List MV} (e1 : h[p]? = some (.lst a)) (e2 : h[q]? = some (.lst b)) (hz : a.length + b.length ≤ 16777216) : binM .add h (.ref p) (.ref q) = some (.ref h.length, h ++ [.lst (a ++ b)]) := by
  unfold binM
  simp only [e1, e2]
  rw [if_pos (by show _ ≤ 16777216; exact hz)]
theorem gcTape : gc [] (MV.ref 1, HT xs t []) = (MV.ref 1, HT xs t []) := by
  unfold gc HT
  rw [if_pos ⟨Nat.zero_le _, fun i o hi _ => absurd hi (Nat.not_lt_zero _)⟩, if_neg (by unfold MV.lt; simp)]
  simp only [List.getElem?_cons_succ, List.getElem?_cons_zero]
  rw [if_neg]
  unfold MO.lt
  simp [ltAll, MV.lt]
theorem gc_ref (h : MH) (n : Nat) (hn : n < h.length) : gc h (.ref n, h) = (.ref n, h) := gc_self (by unfold MV.lt; exact hn)
theorem gcHset (v : MV) (hv : v.data = true) (hz : dataAll zs = true) : gc (HT xs t (r ++ [.lst ys])) (v, HT xs t' (r ++ .lst zs :: j)) = (v, HT xs t' (r ++ [.lst zs])) := by
  have := gcHT xs t t' (r ++ [.lst ys]) (r' := r ++ [.lst zs]) (j := j) (v := v) (by simp) (fun i o q => by
    by_cases c : i < r.length
    · left
      rw [List.getElem?_append_left c] at q ⊢
      exact q
    · right
      rw [List.getElem?_append_right (by omega)] at q
      cases hi : i - r.length with
      | zero =>
        rw [hi] at q
        simp at q
        subst q
        exact lt_dataAll hz
      | succ n =>
        rw [hi] at q
        simp at q) (lt_data hv)
  simpa using this
end
end MP
namespace K93
open PySem
def fn_hand : MP.FnI := { np := 3, names := ["link", "state", "now", "place", "last", "waiting", "time", "leaves", "arrival"], body := [
  .asg (.tup [.nm 3, .nm 4, .nm 5]) (.var 1),
  .asg (.nm 5) (.bi .tuple [.comp (.var 6) (.nm 6) .ex [.var 5] [.cmp .gt (.var 6) (.var 2)] [("time", 6)]]),
  .ite (.or (.cmp .isin (.var 3) (.idx (.var 0) (.glob "DROPS"))) (.call "is_full" [.var 0, .var 5])) [
    .ret (.tup [.tup [.bin .add (.var 3) (.int 1), .var 4, .var 5], .tup []])] [],
  .asg (.nm 7) (.call "leaving" [.var 0, .var 4, .var 2]),
  .ite (.cmp .gt (.var 7) (.var 2)) [
    .asg (.nm 5) (.bin .add (.var 5) (.tup [.var 7]))] [],
  .asg (.nm 8) (.bin .add (.bin .add (.var 7) (.idx (.var 0) (.glob "DELAY"))) (.call "more_for" [.var 0, .var 3])),
  .ite (.cmp .isin (.var 3) (.idx (.var 0) (.glob "DOUBLES"))) [
    .ret (.tup [.tup [.bin .add (.var 3) (.int 1), .var 7, .var 5], .tup [.var 8, .var 8]])] [],
  .ret (.tup [.tup [.bin .add (.var 3) (.int 1), .var 7, .var 5], .tup [.var 8]])] }
def fn_is_full : MP.FnI := { np := 2, names := ["link", "waiting"], body := [
  .ret (.and (.cmp .ne (.idx (.var 0) (.glob "EVERY")) (.int 0)) (.cmp .ge (.bi .len [.var 1]) (.idx (.var 0) (.glob "ROOM"))))] }
def fn_leaving : MP.FnI := { np := 3, names := ["link", "last", "now"], body := [
  .ite (.or (.cmp .eq (.idx (.var 0) (.glob "EVERY")) (.int 0)) (.cmp .isN (.var 1) (.non))) [
    .ret (.var 2)] [],
  .ret (.bi .max [.var 2, .bin .add (.var 1) (.idx (.var 0) (.glob "EVERY"))])] }
def fn_more_for : MP.FnI := { np := 2, names := ["link", "place", "late", "more"], body := [
  .for_ (.tup [.nm 2, .nm 3]) .ex [.idx (.var 0) (.glob "LATES")] [
    .ite (.cmp .eq (.var 2) (.var 1)) [
      .ret (.var 3)] []],
  .ret (.int 0)] }
def fn_worst : MP.FnI := { np := 1, names := ["link"], body := [
  .ret (.bin .add (.idx (.var 0) (.glob "DELAY")) (.bin .mul (.idx (.var 0) (.glob "EVERY")) (.idx (.var 0) (.glob "ROOM"))))] }
def fn_law_tape : MP.FnI := { np := 1, names := ["script", "total", "cell"], body := [
  .asg (.nm 1) (.int 7),
  .for_ (.nm 2) .ex [.var 0] [
    .asg (.nm 1) (.bin .mod (.bi .int [.bin .add (.bin .mul (.var 1) (.int 31)) (.bi .abs [.bi .int [.var 2]])]) (.int 2147483647))],
  .ret (.lst [.bi .list [.var 0], .int 0, .int 0, .var 1])] }
def fn_law_draw : MP.FnI := { np := 2, names := ["tape", "many", "place", "number"], body := [
  .ite (.cmp .eq (.idx (.var 0) (.int 2)) (.int 0)) [
    .asg (.nm 2) (.idx (.var 0) (.int 1)),
    .asg (.nm 3) (.int 0),
    .ite (.cmp .lt (.var 2) (.bi .len [.idx (.var 0) (.int 0)])) [
      .asg (.nm 3) (.bi .abs [.bi .int [.idx (.idx (.var 0) (.int 0)) (.var 2)]])] [
      .setIx (.var 0) (.int 3) (.bin .mod (.bi .int [.bin .add (.bin .add (.bin .mul (.idx (.var 0) (.int 3)) (.int 48271)) (.var 2)) (.int 1)]) (.int 2147483647)),
      .asg (.nm 3) (.idx (.var 0) (.int 3))],
    .setIx (.var 0) (.int 1) (.bin .add (.var 2) (.int 1)),
    .ite (.cmp .lt (.var 3) (.bin .pow (.int 10) (.int 18))) [
      .asg (.nm 3) (.bin .mod (.bi .int [.bin .add (.bin .add (.bin .mul (.var 3) (.int 48271)) (.bin .mul (.var 2) (.int 69621))) (.int 5)]) (.int 2147483647)),
      .asg (.nm 3) (.bin .mod (.bi .int [.bin .mul (.var 3) (.int 69621)]) (.int 2147483629)),
      .ret (.bin .mod (.bi .int [.var 3]) (.bi .max [.var 1, .int 1]))] [],
    .setIx (.var 0) (.int 2) (.var 3)] [],
  .asg (.nm 3) (.idx (.var 0) (.int 2)),
  .setIx (.var 0) (.int 2) (.bin .fdiv (.var 3) (.bi .max [.var 1, .int 2])),
  .ret (.bin .mod (.bi .int [.var 3]) (.bi .max [.var 1, .int 1]))] }
def fn_law_pick : MP.FnI := { np := 2, names := ["tape", "rows"], body := [
  .ret (.idx (.var 1) (.call "_law_draw" [.var 0, .bi .len [.var 1]]))] }
def fn_law_turns : MP.FnI := { np := 2, names := ["tape", "many", "left", "turns", "k"], body := [
  .asg (.nm 2) (.lrng .rng1 [.var 1]),
  .asg (.nm 3) (.lst []),
  .for_ (.nm 4) .rng1 [.var 1] [
    .ex (.meth .append (.var 3) [.meth .pop (.var 2) [.call "_law_draw" [.var 0, .bi .len [.var 2]]]])],
  .ret (.slice (.var 3) .non (.idx (.lst [.var 1, .var 1, .int 1]) (.call "_law_draw" [.var 0, .int 3])))] }
def fn_law_same : MP.FnI := { np := 2, names := ["told", "wanted", "k"], body := [
  .ite (.isi (.var 1) .tuple) [
    .ite (.or (.not (.isi (.var 0) .tuple)) (.cmp .ne (.bi .len [.var 0]) (.bi .len [.var 1]))) [
      .ret (.bl false)] [],
    .ret (.cmp .notin (.bl false) (.comp (.call "_law_same" [.idx (.var 0) (.var 2), .idx (.var 1) (.var 2)]) (.nm 2) .rng1 [.bi .len [.var 1]] [] [("k", 2)]))] [],
  .ite (.or (.cmp .isN (.var 1) (.non)) (.cmp .isN (.var 0) (.non))) [
    .ret (.and (.cmp .isN (.var 1) (.non)) (.cmp .isN (.var 0) (.non)))] [],
  .ite (.or (.cmp .ne (.isi (.var 0) .bool) (.isi (.var 1) .bool)) (.cmp .ne (.isi (.var 0) .str) (.isi (.var 1) .str))) [
    .ret (.bl false)] [],
  .ret (.and (.cmp .eq (.isi (.var 0) .int) (.isi (.var 1) .int)) (.cmp .eq (.var 0) (.var 1)))] }
def fn_law_order : MP.FnI := { np := 2, names := ["tape", "rows", "left", "out", "k"], body := [
  .asg (.nm 2) (.bi .list [.var 1]),
  .asg (.nm 3) (.lst []),
  .for_ (.nm 4) .rng1 [.bi .len [.var 1]] [
    .ex (.meth .append (.var 3) [.meth .pop (.var 2) [.call "_law_draw" [.var 0, .bi .len [.var 2]]]])],
  .ret (.var 3)] }
def fn_law_handed : MP.FnI := { np := 3, names := ["link", "state", "now", "place", "last", "waiting", "left", "time", "leaves", "arrives", "row", "k"], body := [
  .asg (.tup [.nm 3, .nm 4, .nm 5]) (.var 1),
  .asg (.nm 6) (.comp (.var 7) (.nm 7) .ex [.var 5] [.cmp .gt (.var 7) (.var 2)] [("time", 7)]),
  .ite (.or (.cmp .isin (.var 3) (.idx (.var 0) (.int 5))) (.and (.cmp .gt (.idx (.var 0) (.int 3)) (.int 0)) (.cmp .ge (.bi .len [.var 6]) (.idx (.var 0) (.int 4))))) [
    .ret (.tup [.tup [.bin .add (.var 3) (.int 1), .var 4, .bi .tuple [.var 6]], .tup []])] [],
  .asg (.nm 8) (.var 2),
  .ite (.and (.cmp .gt (.idx (.var 0) (.int 3)) (.int 0)) (.cmp .notN (.var 4) (.non))) [
    .asg (.nm 8) (.bi .max [.var 2, .bin .add (.var 4) (.idx (.var 0) (.int 3))])] [],
  .ite (.cmp .gt (.var 8) (.var 2)) [
    .ex (.meth .append (.var 6) [.var 8])] [],
  .asg (.nm 9) (.bin .add (.bin .add (.var 8) (.idx (.var 0) (.int 2))) (.bi .sum [.comp (.idx (.var 10) (.int 1)) (.nm 10) .ex [.idx (.var 0) (.int 7)] [.cmp .eq (.idx (.var 10) (.int 0)) (.var 3)] [("row", 10)]])),
  .ret (.tup [.tup [.bin .add (.var 3) (.int 1), .var 8, .bi .tuple [.var 6]], .bi .tuple [.comp (.var 9) (.nm 11) .rng1 [.bin .add (.int 1) (.bi .int [.cmp .isin (.var 3) (.idx (.var 0) (.int 6))])] [] [("k", 11)]]])] }
def fn_law_places : MP.FnI := { np := 1, names := ["tape", "most", "place", "places", "k"], body := [
  .asg (.nm 1) (.call "_law_pick" [.var 0, .lst [.int 1, .int 1, .int 2, .int 4, .int 12]]),
  .asg (.nm 2) (.bin .sub (.call "_law_draw" [.var 0, .int 4]) (.int 1)),
  .asg (.nm 3) (.lst []),
  .for_ (.nm 4) .rng1 [.call "_law_pick" [.var 0, .lst [.int 0, .int 0, .int 1, .int 2, .int 5, .int 20]]] [
    .asg (.nm 2) (.bin .add (.bin .add (.var 2) (.int 1)) (.call "_law_draw" [.var 0, .var 1])),
    .ex (.meth .append (.var 3) [.var 2])],
  .ret (.bi .tuple [.var 3])] }
def fn_law_lates : MP.FnI := { np := 1, names := ["tape", "places", "place"], body := [
  .asg (.nm 1) (.call "_law_places" [.var 0]),
  .ret (.bi .tuple [.comp (.tup [.var 2, .call "_law_pick" [.var 0, .lst [.int 1, .int 2, .int 9, .int 10000, .bin .add (.int 1) (.call "_law_draw" [.var 0, .int 10000])]]]) (.nm 2) .ex [.var 1] [] [("place", 2)]])] }
def fn_law_link : MP.FnI := { np := 1, names := ["tape", "every", "room", "slow", "ends"], body := [
  .asg (.nm 1) (.call "_law_pick" [.var 0, .lst [.int 0, .int 1, .int 2, .int 3, .int 7, .int 50, .int 1000, .bin .add (.int 1) (.call "_law_draw" [.var 0, .int 1000])]]),
  .asg (.nm 2) (.int 0),
  .ite (.cmp .gt (.var 1) (.int 0)) [
    .asg (.nm 2) (.call "_law_pick" [.var 0, .lst [.int 1, .int 1, .int 2, .int 3, .int 5, .int 19, .int 20, .bin .add (.int 1) (.call "_law_draw" [.var 0, .int 20])]])] [],
  .asg (.nm 3) (.call "_law_pick" [.var 0, .lst [.int 1, .int 2, .int 5, .int 30, .int 10000, .bin .add (.int 1) (.call "_law_draw" [.var 0, .int 10000])]]),
  .asg (.nm 4) (.tup [.call "_law_draw" [.var 0, .int 100], .call "_law_draw" [.var 0, .int 100]]),
  .ret (.bin .add (.var 4) (.tup [.var 3, .var 1, .var 2, .call "_law_places" [.var 0], .call "_law_places" [.var 0], .call "_law_lates" [.var 0]]))] }
def fn_law_bent_link : MP.FnI := { np := 2, names := ["tape", "link", "choice"], body := [
  .asg (.nm 2) (.call "_law_draw" [.var 0, .int 5]),
  .ite (.cmp .eq (.var 2) (.int 0)) [
    .ret (.bin .add (.bin .add (.slice (.var 1) .non (.int 2)) (.tup [.call "_law_pick" [.var 0, .lst [.int 1, .int 10000, .bin .add (.bin .fdiv (.idx (.var 1) (.int 2)) (.int 2)) (.int 1)]]])) (.slice (.var 1) (.int 3) .non))] [],
  .ite (.and (.cmp .eq (.var 2) (.int 1)) (.and (.cmp .lt (.int 0) (.idx (.var 1) (.int 4))) (.cmp .lt (.idx (.var 1) (.int 4)) (.int 20)))) [
    .ret (.bin .add (.bin .add (.slice (.var 1) .non (.int 4)) (.tup [.bin .add (.idx (.var 1) (.int 4)) (.int 1)])) (.slice (.var 1) (.int 5) .non))] [],
  .ite (.cmp .eq (.var 2) (.int 2)) [
    .ret (.bin .add (.bin .add (.slice (.var 1) .non (.int 6)) (.tup [.call "_law_places" [.var 0]])) (.slice (.var 1) (.int 7) .non))] [],
  .ite (.cmp .eq (.var 2) (.int 3)) [
    .ret (.bin .add (.slice (.var 1) .non (.int 7)) (.tup [.call "_law_lates" [.var 0]]))] [],
  .ret (.bin .add (.bin .add (.slice (.var 1) .non (.int 5)) (.tup [.call "_law_places" [.var 0]])) (.slice (.var 1) (.int 6) .non))] }
def fn_law_later : MP.FnI := { np := 4, names := ["tape", "link", "state", "now", "times"], body := [
  .asg (.nm 4) (.lst [.var 3, .var 3, .bin .add (.var 3) (.int 1), .bin .add (.var 3) (.call "_law_draw" [.var 0, .bin .add (.idx (.var 1) (.int 3)) (.int 2)]), .bin .add (.var 3) (.call "_law_draw" [.var 0, .int 20000])]),
  .ite (.cmp .gt (.bi .len [.idx (.var 2) (.int 2)]) (.int 0)) [
    .ex (.meth .append (.var 4) [.bin .sub (.bin .add (.call "_law_pick" [.var 0, .bi .list [.idx (.var 2) (.int 2)]]) (.call "_law_draw" [.var 0, .int 3])) (.int 1)])] [],
  .ite (.cmp .notN (.idx (.var 2) (.int 1)) (.non)) [
    .ex (.meth .append (.var 4) [.bin .sub (.bin .add (.bin .add (.idx (.var 2) (.int 1)) (.idx (.var 1) (.int 3))) (.call "_law_draw" [.var 0, .int 3])) (.int 1)])] [],
  .ret (.bi .min [.bi .max [.var 3, .call "_law_pick" [.var 0, .var 4]], .int 1000000])] }
def fn_law_run : MP.FnI := { np := 3, names := ["tape", "link", "many", "state", "now", "rows", "k"], body := [
  .asg (.nm 3) (.tup [.int 0, .non, .tup []]),
  .asg (.nm 4) (.call "_law_draw" [.var 0, .int 100000]),
  .asg (.nm 5) (.lst []),
  .for_ (.nm 6) .rng1 [.var 2] [
    .ex (.meth .append (.var 5) [.tup [.var 1, .var 3, .var 4]]),
    .asg (.nm 3) (.idx (.call "_law_handed" [.var 1, .var 3, .var 4]) (.int 0)),
    .asg (.nm 4) (.call "_law_later" [.var 0, .var 1, .var 3, .var 4])],
  .ret (.var 5)] }
def fn_law_reached : MP.FnI := { np := 2, names := ["tape", "link", "bare", "state", "now", "k", "told", "wanted"], body := [
  .asg (.nm 2) (.bin .add (.slice (.var 1) .non (.int 5)) (.tup [.tup [], .tup [], .tup []])),
  .asg (.nm 3) (.tup [.int 0, .non, .tup []]),
  .asg (.nm 4) (.call "_law_draw" [.var 0, .int 100000]),
  .ite (.cmp .eq (.call "_law_draw" [.var 0, .int 2]) (.int 0)) [
    .asg (.nm 3) (.tup [.call "_law_draw" [.var 0, .int 1000], .var 4, .tup []]),
    .asg (.nm 4) (.bin .add (.bin .add (.var 4) (.idx (.var 1) (.int 3))) (.call "_law_draw" [.var 0, .int 3]))] [],
  .for_ (.nm 5) .rng1 [.bin .add (.idx (.var 1) (.int 4)) (.int 1)] [
    .asg (.nm 6) (.call "hand" [.var 2, .var 3, .var 4]),
    .asg (.nm 7) (.call "_law_handed" [.var 2, .var 3, .var 4]),
    .ite (.not (.call "_law_same" [.var 6, .var 7])) [
      .ret (.bl false)] [],
    .asg (.nm 3) (.idx (.var 7) (.int 0))],
  .ite (.and (.cmp .gt (.idx (.var 1) (.int 3)) (.int 0)) (.cmp .ne (.bin .sub (.idx (.idx (.var 6) (.int 1)) (.int 0)) (.var 4)) (.call "worst" [.var 2]))) [
    .ret (.bl false)] [],
  .ret (.call "_law_same" [.idx (.call "hand" [.var 2, .var 3, .var 4]) (.int 1), .idx (.call "_law_handed" [.var 2, .var 3, .var 4]) (.int 1)])] }
def fn_law : MP.FnI := { np := 1, names := ["script", "tape", "link", "bent", "rows", "twins", "row", "asked", "door"], body := [
  .asg (.nm 1) (.call "_law_tape" [.var 0]),
  .asg (.nm 2) (.call "_law_link" [.var 1]),
  .asg (.nm 3) (.call "_law_bent_link" [.var 1, .var 2]),
  .asg (.nm 4) (.call "_law_run" [.var 1, .var 2, .call "_law_pick" [.var 1, .lst [.int 12, .int 16, .int 24, .int 40]]]),
  .asg (.nm 5) (.comp (.tup [.var 3, .idx (.var 6) (.int 1), .idx (.var 6) (.int 2)]) (.nm 6) .ex [.slice (.var 4) (.call "_law_draw" [.var 1, .int 12]) .non] [] [("row", 6)]),
  .asg (.nm 7) (.call "_law_order" [.var 1, .bin .add (.var 4) (.slice (.var 5) .non (.int 12))]),
  .for_ (.nm 8) .ex [.call "_law_turns" [.var 1, .int 3]] [
    .ite (.cmp .eq (.var 8) (.int 0)) [
      .for_ (.nm 6) .ex [.bin .add (.var 7) (.slice (.var 7) .non (.int 1))] [
        .ite (.not (.call "_law_same" [.call "hand" [.idx (.var 6) (.int 0), .idx (.var 6) (.int 1), .idx (.var 6) (.int 2)], .call "_law_handed" [.idx (.var 6) (.int 0), .idx (.var 6) (.int 1), .idx (.var 6) (.int 2)]])) [
          .ret (.bl false)] []]] [],
    .ite (.cmp .eq (.var 8) (.int 1)) [
      .for_ (.nm 6) .ex [.lst [.var 2, .var 3, .var 2]] [
        .ite (.not (.call "_law_same" [.call "worst" [.var 6], .bin .add (.idx (.var 6) (.int 2)) (.bin .mul (.idx (.var 6) (.int 3)) (.idx (.var 6) (.int 4)))])) [
          .ret (.bl false)] []]] [],
    .ite (.and (.cmp .eq (.var 8) (.int 2)) (.not (.call "_law_reached" [.var 1, .var 2]))) [
      .ret (.bl false)] []],
  .ret (.bl true)] }
def g : MP.Mod := { fns := [("hand", fn_hand), ("is_full", fn_is_full), ("leaving", fn_leaving), ("more_for", fn_more_for), ("worst", fn_worst), ("_law_tape", fn_law_tape), ("_law_draw", fn_law_draw), ("_law_pick", fn_law_pick), ("_law_turns", fn_law_turns), ("_law_same", fn_law_same), ("_law_order", fn_law_order), ("_law_handed", fn_law_handed), ("_law_places", fn_law_places), ("_law_lates", fn_law_lates), ("_law_link", fn_law_link), ("_law_bent_link", fn_law_bent_link), ("_law_later", fn_law_later), ("_law_run", fn_law_run), ("_law_reached", fn_law_reached), ("law", fn_law)], cns := [("DELAY", .int 2), ("EVERY", .int 3), ("ROOM", .int 4), ("DROPS", .int 5), ("DOUBLES", .int 6), ("LATES", .int 7)] }
def topS (i : Nat) : Stmt := PySem.Challenge.pw_sealedlink_k93_links_and_the_worst_wait.main.body.getD i (.Pass ⟨0, 0, 0, 0⟩)
abbrev s_hand : Stmt := topS 7
abbrev s_is_full : Stmt := topS 8
abbrev s_leaving : Stmt := topS 9
abbrev s_more_for : Stmt := topS 10
abbrev s_worst : Stmt := topS 11
abbrev s_law_tape : Stmt := topS 13
abbrev s_law_draw : Stmt := topS 14
abbrev s_law_pick : Stmt := topS 15
abbrev s_law_turns : Stmt := topS 16
abbrev s_law_same : Stmt := topS 17
abbrev s_law_order : Stmt := topS 18
abbrev s_law_handed : Stmt := topS 19
abbrev s_law_places : Stmt := topS 20
abbrev s_law_lates : Stmt := topS 21
abbrev s_law_link : Stmt := topS 22
abbrev s_law_bent_link : Stmt := topS 23
abbrev s_law_later : Stmt := topS 24
abbrev s_law_run : Stmt := topS 25
abbrev s_law_reached : Stmt := topS 26
abbrev s_law : Stmt := topS 27
theorem sc_hand : L2.FnScope fn_hand.names ["link", "state", "now"] (L2.defScope s_hand) := ⟨rfl, rfl, rfl, by decide +kernel, rfl, by decide +kernel, by decide +kernel⟩
theorem ck_hand : MP.chkSs g ⟨fn_hand.names, L2.defScope s_hand, fun _ => true⟩ (L2.defBody s_hand) fn_hand.body = true := by decide +kernel
theorem sc_is_full : L2.FnScope fn_is_full.names ["link", "waiting"] (L2.defScope s_is_full) := ⟨rfl, rfl, rfl, by decide +kernel, rfl, by decide +kernel, by decide +kernel⟩
theorem ck_is_full : MP.chkSs g ⟨fn_is_full.names, L2.defScope s_is_full, fun _ => true⟩ (L2.defBody s_is_full) fn_is_full.body = true := by decide +kernel
theorem sc_leaving : L2.FnScope fn_leaving.names ["link", "last", "now"] (L2.defScope s_leaving) := ⟨rfl, rfl, rfl, by decide +kernel, rfl, by decide +kernel, by decide +kernel⟩
theorem ck_leaving : MP.chkSs g ⟨fn_leaving.names, L2.defScope s_leaving, fun _ => true⟩ (L2.defBody s_leaving) fn_leaving.body = true := by decide +kernel
theorem sc_more_for : L2.FnScope fn_more_for.names ["link", "place"] (L2.defScope s_more_for) := ⟨rfl, rfl, rfl, by decide +kernel, rfl, by decide +kernel, by decide +kernel⟩
theorem ck_more_for : MP.chkSs g ⟨fn_more_for.names, L2.defScope s_more_for, fun _ => true⟩ (L2.defBody s_more_for) fn_more_for.body = true := by decide +kernel
theorem sc_worst : L2.FnScope fn_worst.names ["link"] (L2.defScope s_worst) := ⟨rfl, rfl, rfl, by decide +kernel, rfl, by decide +kernel, by decide +kernel⟩
theorem ck_worst : MP.chkSs g ⟨fn_worst.names, L2.defScope s_worst, fun _ => true⟩ (L2.defBody s_worst) fn_worst.body = true := by decide +kernel
theorem sc_law_tape : L2.FnScope fn_law_tape.names ["script"] (L2.defScope s_law_tape) := ⟨rfl, rfl, rfl, by decide +kernel, rfl, by decide +kernel, by decide +kernel⟩
theorem ck_law_tape : MP.chkSs g ⟨fn_law_tape.names, L2.defScope s_law_tape, fun _ => true⟩ (L2.defBody s_law_tape) fn_law_tape.body = true := by decide +kernel
theorem sc_law_draw : L2.FnScope fn_law_draw.names ["tape", "many"] (L2.defScope s_law_draw) := ⟨rfl, rfl, rfl, by decide +kernel, rfl, by decide +kernel, by decide +kernel⟩
theorem ck_law_draw : MP.chkSs g ⟨fn_law_draw.names, L2.defScope s_law_draw, fun _ => true⟩ (L2.defBody s_law_draw) fn_law_draw.body = true := by decide +kernel
theorem sc_law_pick : L2.FnScope fn_law_pick.names ["tape", "rows"] (L2.defScope s_law_pick) := ⟨rfl, rfl, rfl, by decide +kernel, rfl, by decide +kernel, by decide +kernel⟩
theorem ck_law_pick : MP.chkSs g ⟨fn_law_pick.names, L2.defScope s_law_pick, fun _ => true⟩ (L2.defBody s_law_pick) fn_law_pick.body = true := by decide +kernel
theorem sc_law_turns : L2.FnScope fn_law_turns.names ["tape", "many"] (L2.defScope s_law_turns) := ⟨rfl, rfl, rfl, by decide +kernel, rfl, by decide +kernel, by decide +kernel⟩
theorem ck_law_turns : MP.chkSs g ⟨fn_law_turns.names, L2.defScope s_law_turns, fun _ => true⟩ (L2.defBody s_law_turns) fn_law_turns.body = true := by decide +kernel
theorem sc_law_same : L2.FnScope fn_law_same.names ["told", "wanted"] (L2.defScope s_law_same) := ⟨rfl, rfl, rfl, by decide +kernel, rfl, by decide +kernel, by decide +kernel⟩
theorem ck_law_same : MP.chkSs g ⟨fn_law_same.names, L2.defScope s_law_same, fun _ => true⟩ (L2.defBody s_law_same) fn_law_same.body = true := by decide +kernel
theorem sc_law_order : L2.FnScope fn_law_order.names ["tape", "rows"] (L2.defScope s_law_order) := ⟨rfl, rfl, rfl, by decide +kernel, rfl, by decide +kernel, by decide +kernel⟩
theorem ck_law_order : MP.chkSs g ⟨fn_law_order.names, L2.defScope s_law_order, fun _ => true⟩ (L2.defBody s_law_order) fn_law_order.body = true := by decide +kernel
theorem sc_law_handed : L2.FnScope fn_law_handed.names ["link", "state", "now"] (L2.defScope s_law_handed) := ⟨rfl, rfl, rfl, by decide +kernel, rfl, by decide +kernel, by decide +kernel⟩
theorem ck_law_handed : MP.chkSs g ⟨fn_law_handed.names, L2.defScope s_law_handed, fun _ => true⟩ (L2.defBody s_law_handed) fn_law_handed.body = true := by decide +kernel
theorem sc_law_places : L2.FnScope fn_law_places.names ["tape"] (L2.defScope s_law_places) := ⟨rfl, rfl, rfl, by decide +kernel, rfl, by decide +kernel, by decide +kernel⟩
theorem ck_law_places : MP.chkSs g ⟨fn_law_places.names, L2.defScope s_law_places, fun _ => true⟩ (L2.defBody s_law_places) fn_law_places.body = true := by decide +kernel
theorem sc_law_lates : L2.FnScope fn_law_lates.names ["tape"] (L2.defScope s_law_lates) := ⟨rfl, rfl, rfl, by decide +kernel, rfl, by decide +kernel, by decide +kernel⟩
theorem ck_law_lates : MP.chkSs g ⟨fn_law_lates.names, L2.defScope s_law_lates, fun _ => true⟩ (L2.defBody s_law_lates) fn_law_lates.body = true := by decide +kernel
theorem sc_law_link : L2.FnScope fn_law_link.names ["tape"] (L2.defScope s_law_link) := ⟨rfl, rfl, rfl, by decide +kernel, rfl, by decide +kernel, by decide +kernel⟩
theorem ck_law_link : MP.chkSs g ⟨fn_law_link.names, L2.defScope s_law_link, fun _ => true⟩ (L2.defBody s_law_link) fn_law_link.body = true := by decide +kernel
theorem sc_law_bent_link : L2.FnScope fn_law_bent_link.names ["tape", "link"] (L2.defScope s_law_bent_link) := ⟨rfl, rfl, rfl, by decide +kernel, rfl, by decide +kernel, by decide +kernel⟩
theorem ck_law_bent_link : MP.chkSs g ⟨fn_law_bent_link.names, L2.defScope s_law_bent_link, fun _ => true⟩ (L2.defBody s_law_bent_link) fn_law_bent_link.body = true := by decide +kernel
theorem sc_law_later : L2.FnScope fn_law_later.names ["tape", "link", "state", "now"] (L2.defScope s_law_later) := ⟨rfl, rfl, rfl, by decide +kernel, rfl, by decide +kernel, by decide +kernel⟩
theorem ck_law_later : MP.chkSs g ⟨fn_law_later.names, L2.defScope s_law_later, fun _ => true⟩ (L2.defBody s_law_later) fn_law_later.body = true := by decide +kernel
theorem sc_law_run : L2.FnScope fn_law_run.names ["tape", "link", "many"] (L2.defScope s_law_run) := ⟨rfl, rfl, rfl, by decide +kernel, rfl, by decide +kernel, by decide +kernel⟩
theorem ck_law_run : MP.chkSs g ⟨fn_law_run.names, L2.defScope s_law_run, fun _ => true⟩ (L2.defBody s_law_run) fn_law_run.body = true := by decide +kernel
theorem sc_law_reached : L2.FnScope fn_law_reached.names ["tape", "link"] (L2.defScope s_law_reached) := ⟨rfl, rfl, rfl, by decide +kernel, rfl, by decide +kernel, by decide +kernel⟩
theorem ck_law_reached : MP.chkSs g ⟨fn_law_reached.names, L2.defScope s_law_reached, fun _ => true⟩ (L2.defBody s_law_reached) fn_law_reached.body = true := by decide +kernel
theorem sc_law : L2.FnScope fn_law.names ["script"] (L2.defScope s_law) := ⟨rfl, rfl, rfl, by decide +kernel, rfl, by decide +kernel, by decide +kernel⟩
theorem ck_law : MP.chkSs g ⟨fn_law.names, L2.defScope s_law, fun _ => true⟩ (L2.defBody s_law) fn_law.body = true := by decide +kernel
section
open PySem PySem.Spec PyProof.Rows L2 MP
theorem fin {P : Program} {w : World} {K : Fra} {mg : Str → Option Value} {h : Heap} {fa : Addr} (k : Nat) (X : K.In h) (G : h.Ns mainGlobals mg) (hfa : mg ("law" : Str) = some (.ref fa))
    (d0 : DefAt K "hand" s_hand)
    (d1 : DefAt K "is_full" s_is_full)
    (d2 : DefAt K "leaving" s_leaving)
    (d3 : DefAt K "more_for" s_more_for)
    (d4 : DefAt K "worst" s_worst)
    (d5 : DefAt K "_law_tape" s_law_tape)
    (d6 : DefAt K "_law_draw" s_law_draw)
    (d7 : DefAt K "_law_pick" s_law_pick)
    (d8 : DefAt K "_law_turns" s_law_turns)
    (d9 : DefAt K "_law_same" s_law_same)
    (d10 : DefAt K "_law_order" s_law_order)
    (d11 : DefAt K "_law_handed" s_law_handed)
    (d12 : DefAt K "_law_places" s_law_places)
    (d13 : DefAt K "_law_lates" s_law_lates)
    (d14 : DefAt K "_law_link" s_law_link)
    (d15 : DefAt K "_law_bent_link" s_law_bent_link)
    (d16 : DefAt K "_law_later" s_law_later)
    (d17 : DefAt K "_law_run" s_law_run)
    (d18 : DefAt K "_law_reached" s_law_reached)
    (d19 : DefAt K "law" s_law)
    (c0 : CnAt K "DELAY" (.int 2))
    (c1 : CnAt K "EVERY" (.int 3))
    (c2 : CnAt K "ROOM" (.int 4))
    (c3 : CnAt K "DROPS" (.int 5))
    (c4 : CnAt K "DOUBLES" (.int 6))
    (c5 : CnAt K "LATES" (.int 7))
    (b0 : PySem.W.nsIn K mainGlobals "len" = some none)
    (b1 : PySem.W.nsIn K mainGlobals "int" = some none)
    (b2 : PySem.W.nsIn K mainGlobals "abs" = some none)
    (b3 : PySem.W.nsIn K mainGlobals "max" = some none)
    (b4 : PySem.W.nsIn K mainGlobals "min" = some none)
    (b5 : PySem.W.nsIn K mainGlobals "sum" = some none)
    (b6 : PySem.W.nsIn K mainGlobals "all" = some none)
    (b7 : PySem.W.nsIn K mainGlobals "any" = some none)
    (b8 : PySem.W.nsIn K mainGlobals "list" = some none)
    (b9 : PySem.W.nsIn K mainGlobals "tuple" = some none)
    (b10 : PySem.W.nsIn K mainGlobals "isinstance" = some none)
    (b11 : PySem.W.nsIn K mainGlobals "range" = some none)
    (b12 : PySem.W.nsIn K mainGlobals "bool" = some none)
    (b13 : PySem.W.nsIn K mainGlobals "str" = some none)
    : ∃ fd : FuncData, (∀ (s : Shared) (v : Value), BindsTo s fd ⟨[v], []⟩ [("script", v)]) ∧ ∀ base : Heap, K.In base → base.Ns mainGlobals mg → FnOk P w K mg base CX0 (k + 1) fa fd ["script"] (spM K g (k + 1) "law") := by
  have M : ModSt K mg g := modst X G (all_cons (fnst X G d0 sc_hand rfl (fun _ _ _ _ _ _ us hl => match us, hl with | [_, _, _], _ => rfl) ck_hand) (all_cons (fnst X G d1 sc_is_full rfl (fun _ _ _ _ _ _ us hl => match us, hl with | [_, _], _ => rfl) ck_is_full) (all_cons (fnst X G d2 sc_leaving rfl (fun _ _ _ _ _ _ us hl => match us, hl with | [_, _, _], _ => rfl) ck_leaving) (all_cons (fnst X G d3 sc_more_for rfl (fun _ _ _ _ _ _ us hl => match us, hl with | [_, _], _ => rfl) ck_more_for) (all_cons (fnst X G d4 sc_worst rfl (fun _ _ _ _ _ _ us hl => match us, hl with | [_], _ => rfl) ck_worst) (all_cons (fnst X G d5 sc_law_tape rfl (fun _ _ _ _ _ _ us hl => match us, hl with | [_], _ => rfl) ck_law_tape) (all_cons (fnst X G d6 sc_law_draw rfl (fun _ _ _ _ _ _ us hl => match us, hl with | [_, _], _ => rfl) ck_law_draw) (all_cons (fnst X G d7 sc_law_pick rfl (fun _ _ _ _ _ _ us hl => match us, hl with | [_, _], _ => rfl) ck_law_pick) (all_cons (fnst X G d8 sc_law_turns rfl (fun _ _ _ _ _ _ us hl => match us, hl with | [_, _], _ => rfl) ck_law_turns) (all_cons (fnst X G d9 sc_law_same rfl (fun _ _ _ _ _ _ us hl => match us, hl with | [_, _], _ => rfl) ck_law_same) (all_cons (fnst X G d10 sc_law_order rfl (fun _ _ _ _ _ _ us hl => match us, hl with | [_, _], _ => rfl) ck_law_order) (all_cons (fnst X G d11 sc_law_handed rfl (fun _ _ _ _ _ _ us hl => match us, hl with | [_, _, _], _ => rfl) ck_law_handed) (all_cons (fnst X G d12 sc_law_places rfl (fun _ _ _ _ _ _ us hl => match us, hl with | [_], _ => rfl) ck_law_places) (all_cons (fnst X G d13 sc_law_lates rfl (fun _ _ _ _ _ _ us hl => match us, hl with | [_], _ => rfl) ck_law_lates) (all_cons (fnst X G d14 sc_law_link rfl (fun _ _ _ _ _ _ us hl => match us, hl with | [_], _ => rfl) ck_law_link) (all_cons (fnst X G d15 sc_law_bent_link rfl (fun _ _ _ _ _ _ us hl => match us, hl with | [_, _], _ => rfl) ck_law_bent_link) (all_cons (fnst X G d16 sc_law_later rfl (fun _ _ _ _ _ _ us hl => match us, hl with | [_, _, _, _], _ => rfl) ck_law_later) (all_cons (fnst X G d17 sc_law_run rfl (fun _ _ _ _ _ _ us hl => match us, hl with | [_, _, _], _ => rfl) ck_law_run) (all_cons (fnst X G d18 sc_law_reached rfl (fun _ _ _ _ _ _ us hl => match us, hl with | [_, _], _ => rfl) ck_law_reached) (all_cons (fnst X G d19 sc_law rfl (fun _ _ _ _ _ _ us hl => match us, hl with | [_], _ => rfl) ck_law) all_nil)))))))))))))))))))) (all_cons c0 (all_cons c1 (all_cons c2 (all_cons c3 (all_cons c4 (all_cons c5 all_nil)))))) (all_cons b0 (all_cons b1 (all_cons b2 (all_cons b3 (all_cons b4 (all_cons b5 (all_cons b6 (all_cons b7 (all_cons b8 (all_cons b9 (all_cons b10 (all_cons b11 (all_cons b12 (all_cons b13 all_nil))))))))))))))
  exact law_mk (st := s_law) (i := fn_law) X G hfa d19 rfl M (fun _ _ _ _ _ _ _ _ => .of_eq rfl) (fun _ _ _ _ _ _ => sc_law) rfl ck_law
end
end K93
namespace K93
open PySem MP
structure Link where
  e0 : Int
  e1 : Int
  slow : Int
  every : Int
  room : Int
  drops : List Int
  doubles : List Int
  lates : List (Int × Int)
structure St where
  place : Int
  last : Option Int
  wait : List Int
def pairM (p : Int × Int) : MV := .tup [.int p.1, .int p.2]
def intsV (is : List Int) : MV := .tup (is.map .int)
def latesV (is : List (Int × Int)) : MV := .tup (is.map pairM)
def optM : Option Int → MV
  | none => .non
  | some i => .int i
def Link.mv (l : Link) : MV := .tup [.int l.e0, .int l.e1, .int l.slow, .int l.every, .int l.room, intsV l.drops, intsV l.doubles, latesV l.lates]
def St.mv (s : St) : MV := .tup [.int s.place, optM s.last, intsV s.wait]
def kept (ws : List Int) (now : Int) : List Int := ws.filter fun t => decide (now < t)
def has (is : List Int) (i : Int) : Bool := is.any (· == i)
def moreL : List (Int × Int) → Int → Int
  | [], _ => 0
  | p :: r, i => if p.1 = i then p.2 else moreL r i
def full (l : Link) (ws : List Int) : Bool := decide (0 < l.every) && decide (l.room ≤ ws.length)
def leaves (l : Link) (last : Option Int) (now : Int) : Int := match last with
  | none => now
  | some x => if 0 < l.every then mx now (x + l.every) else now
def after (l : Link) (s : St) (now : Int) : St × List Int :=
  if has l.drops s.place || full l (kept s.wait now) then (⟨s.place + 1, s.last, kept s.wait now⟩, [])
  else (⟨s.place + 1, some (leaves l s.last now), if now < leaves l s.last now then kept s.wait now ++ [leaves l s.last now] else kept s.wait now⟩,
    if has l.doubles s.place then [leaves l s.last now + l.slow + moreL l.lates s.place, leaves l s.last now + l.slow + moreL l.lates s.place] else [leaves l s.last now + l.slow + moreL l.lates s.place])
def afterV (r : St × List Int) : MV := .tup [r.1.mv, intsV r.2]
structure Link.Ok (l : Link) : Prop where
  every : 0 ≤ l.every ∧ l.every ≤ 1000
  room : 0 ≤ l.room ∧ l.room ≤ 21
  lates : (l.lates.map (·.1)).Nodup
  sz : l.drops.length ≤ 1000 ∧ l.doubles.length ≤ 1000 ∧ l.lates.length ≤ 1000
@[simp] theorem intsV_data (is) : (intsV is).data = true := by simp [intsV]
@[simp] theorem latesV_data (is) : (latesV is).data = true := by
  unfold latesV; rw [data_tup, dataAll_iff]; intro x hx; obtain ⟨p, _, rfl⟩ := List.mem_map.mp hx; simp [pairM]
@[simp] theorem optM_data (o) : (optM o).data = true := by cases o <;> simp [optM]
@[simp] theorem mv_data (l : Link) : l.mv.data = true := by simp [Link.mv]
@[simp] theorem st_data (l : St) : l.mv.data = true := by simp [St.mv]
@[simp] theorem after_data (r) : (afterV r).data = true := by simp [afterV]
section
variable (h : MH) (l : Link)
@[simp] theorem l2 : atM h l.mv (.int 2) = some (.int l.slow) := by rfl
@[simp] theorem l3 : atM h l.mv (.int 3) = some (.int l.every) := by rfl
@[simp] theorem l4 : atM h l.mv (.int 4) = some (.int l.room) := by rfl
@[simp] theorem l5 : atM h l.mv (.int 5) = some (intsV l.drops) := by rfl
@[simp] theorem l6 : atM h l.mv (.int 6) = some (intsV l.doubles) := by rfl
@[simp] theorem l7 : atM h l.mv (.int 7) = some (latesV l.lates) := by rfl
@[simp] theorem s0 (s : St) : atM h s.mv (.int 0) = some (.int s.place) := by rfl
@[simp] theorem s1 (s : St) : atM h s.mv (.int 1) = some (optM s.last) := by rfl
@[simp] theorem s2 (s : St) : atM h s.mv (.int 2) = some (intsV s.wait) := by rfl
@[simp] theorem in_V (i : Int) (is : List Int) : inM h (.int i) (intsV is) = some (has is i) := in_ints h i is
@[simp] theorem len_V (is : List Int) : lenM h [intsV is] = some (.int is.length, h) := by simp [intsV]
variable {cf : Str → List MV → MH → MP.R} (env : MP.Env)
@[simp] theorem g_DELAY : evE g cf (.glob "DELAY") env h = some (.int 2, h) := by simp only [evE]; rfl
@[simp] theorem g_EVERY : evE g cf (.glob "EVERY") env h = some (.int 3, h) := by simp only [evE]; rfl
@[simp] theorem g_ROOM : evE g cf (.glob "ROOM") env h = some (.int 4, h) := by simp only [evE]; rfl
@[simp] theorem g_DROPS : evE g cf (.glob "DROPS") env h = some (.int 5, h) := by simp only [evE]; rfl
@[simp] theorem g_DOUBLES : evE g cf (.glob "DOUBLES") env h = some (.int 6, h) := by simp only [evE]; rfl
@[simp] theorem g_LATES : evE g cf (.glob "LATES") env h = some (.int 7, h) := by simp only [evE]; rfl
end
theorem run_is_full (k : Nat) (h : MH) (l : Link) (ok : l.Ok) (ws : List Int) : run g (k + 1) "is_full" [l.mv, intsV ws] h = some (.bl (full l ws), h) := by
  rw [run_def (i := fn_is_full) rfl rfl]
  unfold fn_is_full full
  have := ok.every
  by_cases c : l.every = 0
  · simp -implicitDefEqProofs [c]
  · have c2 : 0 < l.every := by omega
    simp -implicitDefEqProofs [c, c2]
theorem run_leaving (k : Nat) (h : MH) (l : Link) (ok : l.Ok) (last : Option Int) (now : Int) : run g (k + 1) "leaving" [l.mv, optM last, .int now] h = some (.int (leaves l last now), h) := by
  rw [run_def (i := fn_leaving) rfl rfl]
  unfold fn_leaving leaves
  have := ok.every
  by_cases c : l.every = 0
  · cases last <;> simp -implicitDefEqProofs [c, optM]
  · have c2 : 0 < l.every := by omega
    cases last <;> simp -implicitDefEqProofs [c, c2, optM]
theorem run_more (k : Nat) (h : MH) (l : Link) (place : Int) : run g (k + 1) "more_for" [l.mv, .int place] h = some (.int (moreL l.lates place), h) := by
  rw [run_def (i := fn_more_for) rfl rfl]
  unfold fn_more_for
  have key : ∀ (q : List (Int × Int)) (st : Its) (e2 e3 : Option MV), st.src = none → ((forL (.tup [.nm 2, .nm 3]) st (fBody g (run g k) [.ite (.cmp .eq (.var 2) (.var 1)) [.ret (.var 3)] []]) (q.map pairM) [some l.mv, some (.int place), e2, e3] h).bind (kSs g (run g k) [.ret (.int 0)])).bind (finR h) = some (.int (moreL q place), h) := by
    intro q
    induction q with
    | nil =>
      intro st e2 e3 hs
      have : st.still h := by unfold Its.still; rw [hs]; trivial
      simp -implicitDefEqProofs [forL, this, moreL]
    | cons p q ih =>
      intro st e2 e3 hs
      have ih' := ih st (some (.int p.1)) (some (.int p.2)) hs
      have : st.still h := by unfold Its.still; rw [hs]; trivial
      by_cases c : p.1 = place
      · simp -implicitDefEqProofs [forL, this, moreL, pairM, c]
      · simp -implicitDefEqProofs [forL, this, moreL, pairM, c]
        exact ih'
  have d : dataAll (l.lates.map pairM) = true := by rw [dataAll_iff]; intro x hx; obtain ⟨p, _, rfl⟩ := List.mem_map.mp hx; simp [pairM]
  have := key l.lates ⟨l.lates.map pairM, none⟩ none none rfl
  simp -implicitDefEqProofs [latesV, its_tup d, this]
end K93
namespace K93
open PySem MP
theorem dints (is : List Int) : dataAll (is.map MV.int) = true := by simp
@[simp] theorem its_V (h : MH) (is : List Int) : itsG .ex h ([intsV is], h) = some (⟨is.map .int, none⟩, h) := its_tup (dints is)
theorem add_V (h : MH) (a : List Int) (x : Int) (hz : a.length ≤ 100000) : binM .add h (intsV a) (.tup [.int x]) = some (intsV (a ++ [x]), h) := by
  unfold intsV
  rw [add_tup h (by simp [LIM]; omega)]
  simp
@[simp] theorem V_tup (is : List Int) : MV.tup (is.map MV.int) = intsV is := rfl
theorem run_hand (k : Nat) (h : MH) (l : Link) (ok : l.Ok) (s : St) (hw : s.wait.length ≤ 1000) (now : Int) : run g (k + 2) "hand" [l.mv, s.mv, .int now] h = some (afterV (after l s now), h) := by
  have key := fun e0 e1 e2 e3 => comp_T (g := g) (cf := run g (k + 1)) (i := 6) (cs := [.cmp .gt (.var 6) (.var 2)]) (elt := .var 6) (env := [some l.mv, e0, some (.int now), e1, e2, e3, none, none, none]) (h := h) (st := ⟨s.wait.map .int, none⟩)
      MV.int (fun t => decide (now < t)) MV.int s.wait (by unfold Its.still; trivial) (fun a _ => by simp) (fun a ha _ => ⟨[], by simp, by simp⟩)
  have f1 := run_is_full k h l ok (kept s.wait now)
  have f2 := run_leaving k h l ok s.last now
  have f3 := run_more k h l s.place
  have ek : s.wait.filter (fun t => decide (now < t)) = kept s.wait now := rfl
  simp only [ek] at key
  have lk : (kept s.wait now).length ≤ s.wait.length := List.length_filter_le _ _
  have ad := add_V h (kept s.wait now) (leaves l s.last now) (by omega)
  have es : s.mv = .tup [.int s.place, optM s.last, intsV s.wait] := rfl
  have ds : dataAll [.int s.place, optM s.last, intsV s.wait] = true := by simp
  rw [run_def (i := fn_hand) rfl rfl]
  unfold fn_hand after
  cases hdr : has l.drops s.place with
  | true =>
    simp -implicitDefEqProofs [es, key, hdr]
    rfl
  | false =>
    cases hfu : full l (kept s.wait now) with
    | true =>
      rw [hfu] at f1
      simp -implicitDefEqProofs [es, key, hdr, f1, hfu]
      rfl
    | false =>
      rw [hfu] at f1
      by_cases hle : now < leaves l s.last now <;> cases hdo : has l.doubles s.place <;>
      · simp -implicitDefEqProofs [es, key, hdr, f1, f2, f3, hfu, hdo, hle, ad]
        rfl
theorem sum_more (place : Int) : ∀ (q : List (Int × Int)), (q.map (·.1)).Nodup → ((q.filter fun p => p.1 == place).map (·.2)).sum = moreL q place
  | [], _ => rfl
  | p :: q, n => by
    simp only [List.map_cons, List.nodup_cons] at n
    have ih := sum_more place q n.2
    by_cases c : p.1 = place
    · have : q.filter (fun p => p.1 == place) = [] := by
        rw [List.filter_eq_nil_iff]
        intro a ha
        have : a.1 ≠ place := fun e => n.1 (List.mem_map.mpr ⟨a, ha, by rw [e, c]⟩)
        simpa using this
      simp [c, this, moreL]
    · simp [c, ih, moreL]
theorem r1 (h : MH) : itsG .rng1 h ([.int 1], h) = some (⟨[.int 0], none⟩, h) := its_rng0 (n := 1) (by decide)
theorem r2 (h : MH) : itsG .rng1 h ([.int 2], h) = some (⟨[.int 0, .int 1], none⟩, h) := its_rng0 (n := 2) (by decide)
end K93
namespace K93
open PySem MP
theorem dpairs (is : List (Int × Int)) : dataAll (is.map pairM) = true := by
  rw [dataAll_iff]; intro x hx; obtain ⟨p, _, rfl⟩ := List.mem_map.mp hx; simp [pairM]
@[simp] theorem its_L (h : MH) (is : List (Int × Int)) : itsG .ex h ([latesV is], h) = some (⟨is.map pairM, none⟩, h) := its_tup (dpairs is)
theorem run_handed (k : Nat) (h : MH) (l : Link) (ok : l.Ok) (s : St) (hw : s.wait.length ≤ 1000) (now : Int) : run g (k + 1) "_law_handed" [l.mv, s.mv, .int now] h = some (afterV (after l s now), h) := by
  have key := fun e0 e1 e2 e3 => comp_T (g := g) (cf := run g k) (i := 7) (cs := [.cmp .gt (.var 7) (.var 2)]) (elt := .var 7) (env := [some l.mv, e0, some (.int now), e1, e2, e3, none, none, none, none, none, none]) (h := h) (st := ⟨s.wait.map .int, none⟩)
      MV.int (fun t => decide (now < t)) MV.int s.wait (by unfold Its.still; trivial) (fun a _ => by simp) (fun a ha _ => ⟨[], by simp, by simp⟩)
  have key2 := fun (h : MH) e0 e1 e2 e4 e5 e6 e7 e8 => comp_T (g := g) (cf := run g k) (i := 10) (cs := [.cmp .eq (.idx (.var 10) (.int 0)) (.var 3)]) (elt := .idx (.var 10) (.int 1)) (env := [some l.mv, e0, e1, some (.int s.place), e2, e4, e5, e6, e7, e8, none, none]) (h := h) (st := ⟨l.lates.map pairM, none⟩)
      pairM (fun p => p.1 == s.place) (fun p => MV.int p.2) l.lates (by unfold Its.still; trivial) (fun a _ => by simp [pairM, L2.atI, L2.ixN]) (fun a ha _ => ⟨[], by simp [pairM, L2.atI, L2.ixN], by simp⟩)
  have key3 := fun (h : MH) (is : List Int) (x : Int) e0 e1 e2 e3 e4 e5 e6 e7 e8 e9 => comp_T (g := g) (cf := run g k) (i := 11) (cs := []) (elt := .var 9) (env := [e0, e1, e2, e3, e4, e5, e6, e7, e8, some (.int x), e9, none]) (h := h) (st := ⟨is.map .int, none⟩)
      MV.int (fun _ => true) (fun _ => MV.int x) is (by unfold Its.still; trivial) (fun a _ => by simp) (fun a ha _ => ⟨[], by simp, by simp⟩)
  have k30 := fun h => key3 h [0]
  have k31 := fun h => key3 h [0, 1]
  simp only [List.map_cons, List.map_nil, List.filter_cons, List.filter_nil, if_true] at k30 k31
  have ek : s.wait.filter (fun t => decide (now < t)) = kept s.wait now := rfl
  simp only [ek] at key
  have lk : (kept s.wait now).length ≤ s.wait.length := List.length_filter_le _ _
  have sm := sum_more s.place l.lates ok.lates
  have em : (l.lates.filter fun p => p.1 == s.place).map (fun p => MV.int p.2) = ((l.lates.filter fun p => p.1 == s.place).map (·.2)).map .int := by simp
  simp only [em] at key2
  obtain ⟨q, hq⟩ : ∃ q, q = (l.lates.filter fun p => p.1 == s.place).map (·.2) := ⟨_, rfl⟩
  simp only [← hq] at key2 sm
  have es : s.mv = .tup [.int s.place, optM s.last, intsV s.wait] := rfl
  have ds : dataAll [.int s.place, optM s.last, intsV s.wait] = true := by simp
  have hlim : (kept s.wait now).length < 16777216 := by omega
  have hev := ok.every
  rw [run_def (i := fn_law_handed) rfl rfl]
  unfold fn_law_handed after
  cases hdr : has l.drops s.place with
  | true =>
    simp -implicitDefEqProofs [es, key, hdr, gc_new]
    rfl
  | false =>
    cases hfu : full l (kept s.wait now) with
    | true =>
      have hf1 : 0 < l.every ∧ l.room ≤ (kept s.wait now).length := by simpa [full] using hfu
      simp -implicitDefEqProofs [es, key, hdr, gc_new, hf1, hfu]
      rfl
    | false =>
      have hf1 : 0 < l.every → (kept s.wait now).length < l.room := by simpa [full] using hfu
      by_cases hle : now < leaves l s.last now
      · have hpos : 0 < l.every := by
          unfold leaves at hle
          cases hs : s.last with
          | none => simp [hs] at hle
          | some x =>
            by_cases c : 0 < l.every
            · exact c
            · simp [hs, c] at hle
        obtain ⟨x, hx⟩ : ∃ x, s.last = some x := by
          cases hs : s.last with
          | none => simp [leaves, hs] at hle
          | some x => exact ⟨x, rfl⟩
        have hlv : leaves l (some x) now = mx now (x + l.every) := by simp [leaves, hpos]
        have hnr : ¬ l.room ≤ (kept s.wait now).length := by have := hf1 hpos; omega
        rw [hx, hlv] at hle
        cases hdo : has l.doubles s.place <;>
        · simp -implicitDefEqProofs [es, key, hdr, gc_new, gc_set1, hpos, hnr, hlim, hfu, hdo, hle, hlv, hx, optM, key2, k30, k31, r1, r2, ints_map, sm, afterV, St.mv]
          simp [intsV]
      · have hc : (decide (0 < l.every) && decide (l.room ≤ (kept s.wait now).length)) = false := hfu
        cases hdo : has l.doubles s.place <;>
        · by_cases hpos : 0 < l.every
          · have hnr : ¬ l.room ≤ (kept s.wait now).length := by have := hf1 hpos; omega
            cases hs : s.last with
            | none =>
              have hlv : leaves l none now = now := by simp [leaves]
              simp -implicitDefEqProofs [es, key, hdr, gc_new, gc_set1, hpos, hnr, hlim, hfu, hdo, hlv, hs, optM, key2, k30, k31, r1, r2, ints_map, sm]
              rfl
            | some x =>
              have hlv : leaves l (some x) now = mx now (x + l.every) := by simp [leaves, hpos]
              rw [hs, hlv] at hle
              simp -implicitDefEqProofs [es, key, hdr, gc_new, gc_set1, hpos, hnr, hlim, hfu, hdo, hle, hlv, hs, optM, key2, k30, k31, r1, r2, ints_map, sm]
              rfl
          · have hlv : leaves l s.last now = now := by unfold leaves; cases s.last <;> simp [hpos]
            simp -implicitDefEqProofs [es, key, hdr, gc_new, gc_set1, hpos, hlim, hfu, hdo, hlv, key2, k30, k31, r1, r2, ints_map, sm]
            rfl
end K93
namespace K93
open PySem MP
theorem hd : g.fns.lookup ("_law_draw" : Str) = some fnDraw := rfl
theorem hp : g.fns.lookup ("_law_pick" : Str) = some fnPick := rfl
theorem run_places (k : Nat) (xs : List Int) (t : Tape) (r : List MO) : ∃ ps t', run g (k + 3) "_law_places" [.ref 1] (HT xs t r) = some (intsV ps, HT xs t' r) ∧ ps.Pairwise (· < ·) ∧ ps.length ≤ 20 := by
  obtain ⟨m, t1, hm, e1⟩ := pick_int hd hp xs t [1, 1, 2, 4, 12] (by simp) (by decide)
  obtain ⟨d, t2, hd2, e2⟩ := draw_ex hd xs t1 4 (by decide) (by decide)
  obtain ⟨n, t3, hn, e3⟩ := pick_int hd hp xs t2 [0, 0, 1, 2, 5, 20] (by simp) (by decide)
  have hm' : 1 ≤ m ∧ m ≤ 12 := by simp at hm; omega
  have hn' : 0 ≤ n ∧ n ≤ 20 := by simp at hn; omega
  obtain ⟨N, rfl⟩ : ∃ N : Nat, n = N := ⟨n.toNat, by omega⟩
  simp only [List.map_cons, List.map_nil] at e1 e3
  have e1 := e1 k r
  have e2 := e2 (k + 1) r
  have e3 := e3 k (r ++ [.lst []])
  simp at e3
  let I : List MV → MP.Env → MH → Prop := fun its e h => ∃ (t : Tape) (ps : List Int) (place : Int) (y4 : Option MV), e = [some (.ref 1), some (.int m), some (.int place), some (.ref (r.length + 2)), y4] ∧ h = HT xs t (r ++ [.lst (ps.map .int)]) ∧ ps.Pairwise (· < ·) ∧ (∀ p ∈ ps, p ≤ place) ∧ ps.length + its.length = N
  have loop := forL_rel (tgt := .nm 4) (st := ⟨(List.range N).map fun i => MV.int ((i : Nat) : Int), none⟩) (body := fBody g (run g (k + 2)) [.asg (.nm 2) (.bin .add (.bin .add (.var 2) (.int 1)) (.call "_law_draw" [.var 0, .var 1])),
    .ex (.meth .append (.var 3) [.var 2])]) I (fun _ _ _ _ => by unfold Its.still; trivial) (fun v vs e h i => by
      obtain ⟨t, ps, place, y4, rfl, rfl, i1, i2, i3⟩ := i
      obtain ⟨dd, tt, hd3, e4⟩ := draw_ex hd xs t m hm'.1 (by omega)
      have e4 := e4 (k + 1) (r ++ [.lst (ps.map .int)])
      have hz : (ps.map MV.int).length < LIM := by simp at i3 ⊢; show ps.length < 16777216; omega
      refine ⟨_, ⟨.nx, [some (.ref 1), some (.int m), some (.int (place + 1 + dd)), some (.ref (r.length + 2)), some v], HT xs tt (r ++ [.lst ((ps ++ [place + 1 + (dd : Int)]).map .int)])⟩, by simp [bindT]; rfl, ?_, .inl rfl, tt, ps ++ [place + 1 + (dd : Int)], place + 1 + dd, some v, rfl, rfl, ?_, ?_, ?_⟩
      · simp -implicitDefEqProofs [e4, Happ0 _ _ _ _ _ _ hz, gcHset]
      · rw [List.pairwise_append]
        refine ⟨i1, by simp, fun a ha b hb => ?_⟩
        have := i2 a ha
        simp at hb
        omega
      · intro p hp
        rcases List.mem_append.mp hp with w | w
        · have := i2 p w; omega
        · simp at w; omega
      · simp at i3 ⊢; omega)
  obtain ⟨e', h', q1, t', ps, place, y4, rfl, rfl, q2, q3, q4⟩ := loop ((List.range N).map fun i => MV.int ((i : Nat) : Int)) [some (.ref 1), some (.int m), some (.int (d - 1)), some (.ref (r.length + 2)), none] (HT xs t3 (r ++ [.lst []])) ⟨t3, [], d - 1, none, rfl, rfl, .nil, by simp, by simp⟩
  refine ⟨ps, t', ?_, q2, by simp at q4; omega⟩
  rw [run_def (i := fn_law_places) rfl rfl]
  unfold fn_law_places
  have ir : itsG .rng1 (HT xs t2 (r ++ [.lst []])) ([.int N], HT xs t3 (r ++ [.lst [], .lst [.int 0, .int 0, .int 1, .int 2, .int 5, .int 20]])) = some (⟨(List.range N).map fun i => MV.int ((i : Nat) : Int), none⟩, HT xs t3 (r ++ [.lst []])) := by
    unfold itsG
    simp only [itsM]
    rw [if_pos ⟨by show (N : Int) ≤ 16777216; omega, by omega⟩]
    simp
  simp -implicitDefEqProofs [e1, e2, e3, gcHn, ir, q1]
end K93
namespace K93
open PySem MP
theorem nodup_lt {ps : List Int} (h : ps.Pairwise (· < ·)) : ps.Nodup := h.imp fun h => by omega
theorem al_pairs {ps : List Int} {ws : List MV} (h : Al (fun v w => ∃ i m, v = MV.int i ∧ w = pairM (i, m)) (ps.map MV.int) ws) : ∃ ls : List (Int × Int), ws = ls.map pairM ∧ ls.map (·.1) = ps := by
  induction ps generalizing ws with
  | nil => cases h; exact ⟨[], rfl, rfl⟩
  | cons p ps ih =>
    cases h with
    | cons q h =>
      obtain ⟨i, m, e1, rfl⟩ := q
      obtain ⟨ls, rfl, e⟩ := ih h
      cases e1
      exact ⟨(p, m) :: ls, rfl, by simp [e]⟩
theorem run_lates (k : Nat) (xs : List Int) (t : Tape) (r : List MO) : ∃ ls t', run g (k + 4) "_law_lates" [.ref 1] (HT xs t r) = some (latesV ls, HT xs t' r) ∧ (ls.map (·.1)).Nodup ∧ ls.length ≤ 20 := by
  obtain ⟨ps, t1, e1, h1, h2⟩ := run_places k xs t r
  obtain ⟨ws, h', q1, ⟨t2, rfl⟩, q2⟩ := compL_rel (tgt := .nm 2) (st := ⟨ps.map MV.int, none⟩) (env := wipeM [some (.ref 1), some (intsV ps), none] [2]) (tst := cTst g (run g (k + 3)) []) (elt := cElt g (run g (k + 3)) (.tup [.var 2, .call "_law_pick" [.var 0, .lst [.int 1, .int 2, .int 9, .int 10000, .bin .add (.int 1) (.call "_law_draw" [.var 0, .int 10000])]]]))
    (fun h => ∃ t, h = HT xs t r) (fun v w => ∃ i m, v = MV.int i ∧ w = pairM (i, m)) (fun _ _ => by unfold Its.still; trivial) (ps.map MV.int) [] (HT xs t1 r) ⟨t1, rfl⟩ (fun v hv h hi => by
      obtain ⟨i, _, rfl⟩ := List.mem_map.mp hv
      obtain ⟨t, rfl⟩ := hi
      obtain ⟨d, t3, _, e3⟩ := draw_ex hd xs t 10000 (by decide) (by decide)
      obtain ⟨m, t4, _, e4⟩ := pick_int hd hp xs t3 [1, 2, 9, 10000, 1 + d] (by simp) (by simp)
      have e3 := e3 (k + 2) r
      have e4 := e4 (k + 1) r
      simp only [List.map_cons, List.map_nil] at e4
      refine ⟨[some (.ref 1), some (intsV ps), some (.int i)], pairM (i, m), HT xs t4 r, by simp [wipeM], by simp, ⟨(pairM (i, m), HT xs t4 (r ++ [.lst [.int 1, .int 2, .int 9, .int 10000, .int (1 + d)]])), ?_, ?_⟩, ⟨t4, rfl⟩, ⟨i, m, rfl, rfl⟩⟩
      · simp -implicitDefEqProofs [e3, e4]
        rfl
      · exact gcHj xs t t4 r _ _ (by simp [pairM]))
  obtain ⟨ls, rfl, e2⟩ := al_pairs q2
  refine ⟨ls, t2, ?_, e2 ▸ nodup_lt h1, by have := congrArg List.length e2; simp at this; omega⟩
  rw [run_def (i := fn_law_lates) rfl rfl]
  unfold fn_law_lates
  have dl : (latesV ls).data = true := by simp
  simp only [List.nil_append] at q1
  have el : MV.tup (ls.map pairM) = latesV ls := rfl
  simp -implicitDefEqProofs [e1, q1, el]
theorem run_link (k : Nat) (xs : List Int) (t : Tape) (r : List MO) : ∃ l t', run g (k + 5) "_law_link" [.ref 1] (HT xs t r) = some (Link.mv l, HT xs t' r) ∧ l.Ok ∧ (0 < l.every → 1 ≤ l.room) ∧ l.room ≤ 20 := by
  obtain ⟨d1, t1, hd1, e1⟩ := draw_ex hd xs t 1000 (by decide) (by decide)
  obtain ⟨every, t2, hev, e2⟩ := pick_int hd hp xs t1 [0, 1, 2, 3, 7, 50, 1000, 1 + d1] (by simp) (by simp)
  have e1 := e1 (k + 3) r
  have e2 := e2 (k + 2) r
  simp only [List.map_cons, List.map_nil] at e2
  simp only [List.mem_cons, List.not_mem_nil, or_false] at hev
  have hev2 : 0 ≤ every ∧ every ≤ 1000 := by omega
  obtain ⟨room, t3, hr, e3⟩ : ∃ (room : Int) (t3 : Tape), (0 ≤ room ∧ room ≤ 20 ∧ (0 < every → 1 ≤ room)) ∧ ∀ y3 y4, evS g (run g (k + 4)) (.ite (.cmp .gt (.var 1) (.int 0)) [
    .asg (.nm 2) (.call "_law_pick" [.var 0, .lst [.int 1, .int 1, .int 2, .int 3, .int 5, .int 19, .int 20, .bin .add (.int 1) (.call "_law_draw" [.var 0, .int 20])]])] []) [some (.ref 1), some (.int every), some (.int 0), y3, y4] (HT xs t2 r) = some ⟨.nx, [some (.ref 1), some (.int every), some (.int room), y3, y4], HT xs t3 r⟩ := by
    by_cases c : 0 < every
    · obtain ⟨d2, t4, hd2, e3⟩ := draw_ex hd xs t2 20 (by decide) (by decide)
      obtain ⟨room, t5, hr, e4⟩ := pick_int hd hp xs t4 [1, 1, 2, 3, 5, 19, 20, 1 + d2] (by simp) (by simp)
      have e3 := e3 (k + 3) r
      have e4 := e4 (k + 2) r
      simp only [List.map_cons, List.map_nil] at e4
      simp only [List.mem_cons, List.not_mem_nil, or_false] at hr
      exact ⟨room, t5, by omega, fun y3 y4 => by simp -implicitDefEqProofs [c, e3, e4]⟩
    · exact ⟨0, t2, by omega, fun y3 y4 => by simp -implicitDefEqProofs [c]⟩
  obtain ⟨d4, t4, hd4, e4⟩ := draw_ex hd xs t3 10000 (by decide) (by decide)
  obtain ⟨slow, t5, _, e5⟩ := pick_int hd hp xs t4 [1, 2, 5, 30, 10000, 1 + d4] (by simp) (by simp)
  obtain ⟨d6, t6, _, e6⟩ := draw_ex hd xs t5 100 (by decide) (by decide)
  obtain ⟨d7, t7, _, e7⟩ := draw_ex hd xs t6 100 (by decide) (by decide)
  obtain ⟨drops, t8, e8, h8, h8'⟩ := run_places (k + 1) xs t7 r
  obtain ⟨doubles, t9, e9, h9, h9'⟩ := run_places (k + 1) xs t8 r
  obtain ⟨lates, t10, e10, h10, h10'⟩ := run_lates k xs t9 r
  have e4 := e4 (k + 3) r
  have e5 := e5 (k + 2) r
  have e6 := e6 (k + 3) r
  have e7 := e7 (k + 3) r
  simp only [List.map_cons, List.map_nil] at e5
  refine ⟨⟨d6, d7, slow, every, room, drops, doubles, lates⟩, t10, ?_, ⟨hev2, ⟨hr.1, by show room ≤ 21; omega⟩, h10, by show drops.length ≤ 1000 ∧ doubles.length ≤ 1000 ∧ lates.length ≤ 1000; omega⟩, hr.2.2, hr.2.1⟩
  rw [run_def (i := fn_law_link) rfl rfl]
  unfold fn_law_link
  have ad := add_tup (HT xs t10 r) (a := [.int d6, .int d7]) (b := [.int slow, .int every, .int room, intsV drops, intsV doubles, latesV lates]) (by simp [LIM])
  have dm : (Link.mv ⟨d6, d7, slow, every, room, drops, doubles, lates⟩).data = true := mv_data _
  unfold Link.mv at dm ⊢
  simp -implicitDefEqProofs [-evS_ite, e1, e2, e3, e4, e5, e6, e7, e8, e9, e10, ad]
end K93
namespace K93
open PySem MP
section
variable (h : MH) (l : Link)
theorem lsl2 : sliceM h l.mv none (some 2) = some (.tup [.int l.e0, .int l.e1], h) := rfl
theorem lsl4 : sliceM h l.mv none (some 4) = some (.tup [.int l.e0, .int l.e1, .int l.slow, .int l.every], h) := rfl
theorem lsl5 : sliceM h l.mv none (some 5) = some (.tup [.int l.e0, .int l.e1, .int l.slow, .int l.every, .int l.room], h) := rfl
theorem lsl6 : sliceM h l.mv none (some 6) = some (.tup [.int l.e0, .int l.e1, .int l.slow, .int l.every, .int l.room, intsV l.drops], h) := rfl
theorem lsl7 : sliceM h l.mv none (some 7) = some (.tup [.int l.e0, .int l.e1, .int l.slow, .int l.every, .int l.room, intsV l.drops, intsV l.doubles], h) := rfl
theorem lsh3 : sliceM h l.mv (some 3) none = some (.tup [.int l.every, .int l.room, intsV l.drops, intsV l.doubles, latesV l.lates], h) := rfl
theorem lsh5 : sliceM h l.mv (some 5) none = some (.tup [intsV l.drops, intsV l.doubles, latesV l.lates], h) := rfl
theorem lsh6 : sliceM h l.mv (some 6) none = some (.tup [intsV l.doubles, latesV l.lates], h) := rfl
theorem lsh7 : sliceM h l.mv (some 7) none = some (.tup [latesV l.lates], h) := rfl
theorem mv_eq : MV.tup [.int l.e0, .int l.e1, .int l.slow, .int l.every, .int l.room, intsV l.drops, intsV l.doubles, latesV l.lates] = l.mv := rfl
end
theorem fdiv2 (h : MH) (i : Int) : binM .fdiv h (.int i) (.int 2) = some (.int (i / 2), h) := fdiv_int h (by decide) (by decide)
theorem run_bent (k : Nat) (xs : List Int) (t : Tape) (r : List MO) (l : Link) (ok : l.Ok) : ∃ l' t', run g (k + 5) "_law_bent_link" [.ref 1, l.mv] (HT xs t r) = some (Link.mv l', HT xs t' r) ∧ l'.Ok := by
  obtain ⟨d, t1, hd1, e1⟩ := draw_ex hd xs t 5 (by decide) (by decide)
  have e1 := e1 (k + 3) r
  have at' := fun h a b (hz : a.length + b.length ≤ 100) => add_tup h (a := a) (b := b) (by show _ ≤ 16777216; omega)
  obtain ⟨sl, t2, _, e2⟩ := pick_int hd hp xs t1 [1, 10000, l.slow / 2 + 1] (by simp) (by simp)
  have e2 := e2 (k + 2) r
  simp only [List.map_cons, List.map_nil] at e2
  obtain ⟨ps, t3, e3, h3, h3'⟩ := run_places (k + 1) xs t1 r
  obtain ⟨ls, t4, e4, h4, h4'⟩ := run_lates k xs t1 r
  have ev := ok.every
  have rm := ok.room
  have sz := ok.sz
  have nl := ok.lates
  have c3 : d = 0 ∨ (d = 1 ∧ 0 < l.room ∧ l.room < 20) ∨ d = 2 ∨ d = 3 ∨ (d ≠ 0 ∧ ¬ (d = 1 ∧ 0 < l.room ∧ l.room < 20) ∧ d ≠ 2 ∧ d ≠ 3) := by omega
  rcases c3 with c | ⟨c, c1, c2⟩ | c | c | ⟨c0, c1, c2, c3⟩
  · refine ⟨{ l with slow := sl }, t2, ?_, ⟨ev, rm, nl, sz⟩⟩
    subst c
    rw [run_def (i := fn_law_bent_link) rfl rfl]
    unfold fn_law_bent_link
    have dm := mv_data { l with slow := sl }
    simp only [← mv_eq] at dm ⊢
    simp only [mv_eq]
    simp -implicitDefEqProofs [e1, e2, lsl2, lsh3, at', fdiv2] at dm ⊢
  · refine ⟨{ l with room := l.room + 1 }, t1, ?_, ⟨ev, by show 0 ≤ l.room + 1 ∧ l.room + 1 ≤ 21; omega, nl, sz⟩⟩
    subst c
    rw [run_def (i := fn_law_bent_link) rfl rfl]
    unfold fn_law_bent_link
    have dm := mv_data { l with room := l.room + 1 }
    simp only [← mv_eq] at dm ⊢
    simp only [mv_eq]
    simp -implicitDefEqProofs [e1, lsl4, lsh5, at', c1, c2] at dm ⊢
  · refine ⟨{ l with doubles := ps }, t3, ?_, ⟨ev, rm, nl, by exact ⟨sz.1, by show ps.length ≤ 1000; omega, sz.2.2⟩⟩⟩
    subst c
    rw [run_def (i := fn_law_bent_link) rfl rfl]
    unfold fn_law_bent_link
    have dm := mv_data { l with doubles := ps }
    simp only [← mv_eq] at dm ⊢
    simp only [mv_eq]
    simp -implicitDefEqProofs [e1, lsl6, lsh7, at', e3] at dm ⊢
  · refine ⟨{ l with lates := ls }, t4, ?_, ⟨ev, rm, h4, by exact ⟨sz.1, sz.2.1, by show ls.length ≤ 1000; omega⟩⟩⟩
    subst c
    rw [run_def (i := fn_law_bent_link) rfl rfl]
    unfold fn_law_bent_link
    have dm := mv_data { l with lates := ls }
    simp only [← mv_eq] at dm ⊢
    simp only [mv_eq]
    simp -implicitDefEqProofs [e1, lsl7, at', e4] at dm ⊢
  · refine ⟨{ l with drops := ps }, t3, ?_, ⟨ev, rm, nl, by exact ⟨by show ps.length ≤ 1000; omega, sz.2⟩⟩⟩
    rw [run_def (i := fn_law_bent_link) rfl rfl]
    unfold fn_law_bent_link
    have dm := mv_data { l with drops := ps }
    simp only [← mv_eq] at dm ⊢
    simp only [mv_eq]
    have i0 : ¬ (d : Int) = 0 := by omega
    have i2 : ¬ (d : Int) = 2 := by omega
    have i3 : ¬ (d : Int) = 3 := by omega
    by_cases b1 : (d : Int) = 1
    · by_cases b2 : 0 < l.room
      · have b3 : ¬ l.room < 20 := by omega
        simp -implicitDefEqProofs [e1, lsl5, lsh6, at', e3, b1, b2, b3] at dm ⊢
      · simp -implicitDefEqProofs [e1, lsl5, lsh6, at', e3, b1, b2] at dm ⊢
    · simp -implicitDefEqProofs [e1, lsl5, lsh6, at', e3, c0, c2, c3, b1, i0, i2, i3] at dm ⊢
end K93
namespace K93
open PySem MP
theorem run_later (k : Nat) (xs : List Int) (t : Tape) (r : List MO) (l : Link) (ok : l.Ok) (s : St) (hw : s.wait.length ≤ 1000) (now : Int) :
    ∃ v t', run g (k + 3) "_law_later" [.ref 1, l.mv, s.mv, .int now] (HT xs t r) = some (.int v, HT xs t' r) := by
  obtain ⟨d1, t1, hd1, e1⟩ := draw_ex hd xs t (l.every + 2) (by have := ok.every; omega) (by have := ok.every; omega)
  obtain ⟨d2, t2, hd2, e2⟩ := draw_ex hd xs t1 20000 (by decide) (by decide)
  have e1 := e1 (k + 1) r
  have e2 := e2 (k + 1) r
  obtain ⟨ts0, h0, h0n, h0l⟩ : ∃ ts0 : List Int, ts0 = [now, now, now + 1, now + d1, now + d2] ∧ ts0 ≠ [] ∧ ts0.length ≤ 5 := ⟨_, rfl, by simp, by simp⟩
  have em : [MV.int now, MV.int now, MV.int (now + 1), MV.int (now + d1), MV.int (now + d2)] = ts0.map .int := by simp [h0]
  obtain ⟨ts1, t3, h1n, h1l, e3⟩ : ∃ (ts1 : List Int) (t3 : Tape), ts1 ≠ [] ∧ ts1.length ≤ 6 ∧ evS g (run g (k + 2)) (.ite (.cmp .gt (.bi .len [.idx (.var 2) (.int 2)]) (.int 0)) [
    .ex (.meth .append (.var 4) [.bin .sub (.bin .add (.call "_law_pick" [.var 0, .bi .list [.idx (.var 2) (.int 2)]]) (.call "_law_draw" [.var 0, .int 3])) (.int 1)])] []) [some (.ref 1), some l.mv, some s.mv, some (.int now), some (.ref (r.length + 2))] (HT xs t2 (r ++ [.lst (ts0.map .int)])) = some ⟨.nx, [some (.ref 1), some l.mv, some s.mv, some (.int now), some (.ref (r.length + 2))], HT xs t3 (r ++ [.lst (ts1.map .int)])⟩ := by
    by_cases c : s.wait = []
    · exact ⟨ts0, t2, h0n, by omega, by simp -implicitDefEqProofs [c]⟩
    · obtain ⟨m, t4, _, e4⟩ := pick_int hd hp xs t2 s.wait c (by omega)
      obtain ⟨d, t5, _, e5⟩ := draw_ex hd xs t4 3 (by decide) (by decide)
      have e4 := e4 k (r ++ [.lst (ts0.map .int)])
      have e5 := e5 (k + 1) (r ++ [.lst (ts0.map .int), .lst (s.wait.map .int)])
      have c2 : (0 : Int) < s.wait.length := by have := List.length_pos_iff.mpr c; omega
      have sq : ∀ h, seqM h (intsV s.wait) = some (s.wait.map .int) := fun h => rfl
      have hz : (ts0.map MV.int).length < LIM := by simp; show ts0.length < 16777216; omega
      have c4 : 0 < s.wait.length := by omega
      simp at e4
      refine ⟨ts0 ++ [m + d - 1], t5, by simp, by simp; omega, ?_⟩
      simp -implicitDefEqProofs [c2, c4, sq, e4, e5, Happ0 _ _ _ _ _ _ hz, gcHset]
  obtain ⟨ts2, t4, h2n, h2l, e4⟩ : ∃ (ts2 : List Int) (t4 : Tape), ts2 ≠ [] ∧ ts2.length ≤ 7 ∧ evS g (run g (k + 2)) (.ite (.cmp .notN (.idx (.var 2) (.int 1)) (.non)) [
    .ex (.meth .append (.var 4) [.bin .sub (.bin .add (.bin .add (.idx (.var 2) (.int 1)) (.idx (.var 1) (.int 3))) (.call "_law_draw" [.var 0, .int 3])) (.int 1)])] []) [some (.ref 1), some l.mv, some s.mv, some (.int now), some (.ref (r.length + 2))] (HT xs t3 (r ++ [.lst (ts1.map .int)])) = some ⟨.nx, [some (.ref 1), some l.mv, some s.mv, some (.int now), some (.ref (r.length + 2))], HT xs t4 (r ++ [.lst (ts2.map .int)])⟩ := by
    cases c : s.last with
    | none => exact ⟨ts1, t3, h1n, by omega, by simp -implicitDefEqProofs [c, optM]⟩
    | some x =>
      obtain ⟨d, t5, _, e5⟩ := draw_ex hd xs t3 3 (by decide) (by decide)
      have e5 := e5 (k + 1) (r ++ [.lst (ts1.map .int)])
      have hz : (ts1.map MV.int).length < LIM := by simp; show ts1.length < 16777216; omega
      refine ⟨ts1 ++ [x + l.every + d - 1], t5, by simp, by simp; omega, ?_⟩
      simp -implicitDefEqProofs [c, optM, e5, Happ0 _ _ _ _ _ _ hz, gcHset]
  obtain ⟨m, t5, _, e5⟩ := pick_int hd hp xs t4 ts2 h2n (by omega)
  have e5 := e5 k r
  refine ⟨mn (mx now m) 1000000, t5, ?_⟩
  rw [run_def (i := fn_law_later) rfl rfl]
  unfold fn_law_later
  simp -implicitDefEqProofs [-evS_ite, e1, e2, em, gcHn, e3, e4, e5]
def rowM (l : Link) (p : St × Int) : MV := .tup [l.mv, p.1.mv, .int p.2]
@[simp] theorem rowM_data (l p) : (rowM l p).data = true := by simp [rowM]
@[simp] theorem rows_data (l) (ps : List (St × Int)) : dataAll (ps.map (rowM l)) = true := by
  rw [dataAll_iff]; intro x hx; obtain ⟨p, _, rfl⟩ := List.mem_map.mp hx; simp
@[simp] theorem af0 (h : MH) (r : St × List Int) : atM h (afterV r) (.int 0) = some r.1.mv := rfl
@[simp] theorem af1 (h : MH) (r : St × List Int) : atM h (afterV r) (.int 1) = some (intsV r.2) := rfl
theorem after_len (l : Link) (s : St) (now : Int) : (after l s now).1.wait.length ≤ s.wait.length + 1 := by
  have lk : (kept s.wait now).length ≤ s.wait.length := List.length_filter_le _ _
  unfold after
  split
  · show (kept s.wait now).length ≤ _; omega
  · show (if _ then _ else _ : List Int).length ≤ _
    split
    · simp; omega
    · omega
theorem run_run (k : Nat) (xs : List Int) (t : Tape) (r : List MO) (l : Link) (ok : l.Ok) (N : Nat) (hN : N ≤ 40) :
    ∃ (rows : List (St × Int)) (t' : Tape), run g (k + 4) "_law_run" [.ref 1, l.mv, .int N] (HT xs t r) = some (.ref (r.length + 2), HT xs t' (r ++ [.lst (rows.map (rowM l))])) ∧ rows.length = N ∧ ∀ p ∈ rows, p.1.wait.length ≤ 40 := by
  obtain ⟨d, t1, hd1, e1⟩ := draw_ex hd xs t 100000 (by decide) (by decide)
  have e1 := e1 (k + 2) r
  let I : List MV → MP.Env → MH → Prop := fun its e h => ∃ (t : Tape) (s : St) (now : Int) (rows : List (St × Int)) (y : Option MV), e = [some (.ref 1), some l.mv, some (.int N), some s.mv, some (.int now), some (.ref (r.length + 2)), y] ∧ h = HT xs t (r ++ [.lst (rows.map (rowM l))]) ∧ s.wait.length ≤ rows.length ∧ (∀ p ∈ rows, p.1.wait.length ≤ 40) ∧ rows.length + its.length = N
  have loop := forL_rel (tgt := .nm 6) (st := ⟨(List.range N).map fun i => MV.int ((i : Nat) : Int), none⟩) (body := fBody g (run g (k + 3)) [.ex (.meth .append (.var 5) [.tup [.var 1, .var 3, .var 4]]),
    .asg (.nm 3) (.idx (.call "_law_handed" [.var 1, .var 3, .var 4]) (.int 0)),
    .asg (.nm 4) (.call "_law_later" [.var 0, .var 1, .var 3, .var 4])]) I (fun _ _ _ _ => by unfold Its.still; trivial) (fun v vs e h i => by
      obtain ⟨t, s, now, rows, y, rfl, rfl, i1, i2, i3⟩ := i
      simp only [List.length_cons] at i3
      have al := after_len l s now
      have f1 := fun h => run_handed (k + 2) h l ok s (by omega) now
      obtain ⟨v2, t2, f2⟩ := run_later k xs t (r ++ [.lst ((rows ++ [(s, now)]).map (rowM l))]) l ok (after l s now).1 (by omega) now
      have hz : (rows.map (rowM l)).length < LIM := by simp; show rows.length < 16777216; omega
      have er : MV.tup [l.mv, s.mv, .int now] = rowM l (s, now) := rfl
      have em : (rows ++ [(s, now)]).map (rowM l) = rows.map (rowM l) ++ [rowM l (s, now)] := by simp
      rw [em] at f2
      refine ⟨_, ⟨.nx, [some (.ref 1), some l.mv, some (.int N), some (after l s now).1.mv, some (.int v2), some (.ref (r.length + 2)), some v], HT xs t2 (r ++ [.lst ((rows ++ [(s, now)]).map (rowM l))])⟩, by simp [bindT]; rfl, ?_, .inl rfl, t2, (after l s now).1, v2, rows ++ [(s, now)], some v, rfl, rfl, by simp; omega, ?_, by simp; omega⟩
      · rw [em]
        simp -implicitDefEqProofs [er, Happ0 _ _ _ _ _ _ hz, gcHset, f1, f2]
      · intro p hp
        rcases List.mem_append.mp hp with w | w
        · exact i2 p w
        · simp at w; subst w; show s.wait.length ≤ 40; omega)
  obtain ⟨e', h', q1, t', s, now, rows, y, rfl, rfl, q2, q3, q4⟩ := loop ((List.range N).map fun i => MV.int ((i : Nat) : Int)) [some (.ref 1), some l.mv, some (.int N), some (St.mv ⟨0, none, []⟩), some (.int d), some (.ref (r.length + 2)), none] (HT xs t1 (r ++ [.lst []])) ⟨t1, ⟨0, none, []⟩, d, [], none, rfl, rfl, by simp, by simp, by simp⟩
  refine ⟨rows, t', ?_, by simp at q4; omega, q3⟩
  rw [run_def (i := fn_law_run) rfl rfl]
  unfold fn_law_run
  have es : MV.tup [.int 0, .non, .tup []] = St.mv ⟨0, none, []⟩ := rfl
  have dg : (St.mv ⟨0, none, []⟩).data = true := by simp
  simp -implicitDefEqProofs [es, e1, gcHn, gc_ref, its_rng0 (n := N) (by omega), q1]
end K93
namespace K93
open PySem MP
theorem hsame : g.fns.lookup ("_law_same" : Str) = some fnSame := rfl
theorem pl_ints (n : Nat) (is : List Int) (h : is.length ≤ 1000000) : pl (n + 1) (intsV is) := by
  unfold intsV
  simp only [pl]
  refine ⟨by simpa using h, fun x hx => ?_⟩
  obtain ⟨i, _, rfl⟩ := List.mem_map.mp hx
  unfold pl; trivial
theorem pl_int (n : Nat) (i : Int) : pl n (.int i) := by unfold pl; trivial
theorem pl_opt (n : Nat) (i : Option Int) : pl n (optM i) := by cases i <;> unfold optM pl <;> trivial
theorem pl_st (n : Nat) (s : St) (h : s.wait.length ≤ 1000000) : pl (n + 2) s.mv := by
  unfold St.mv
  simp only [pl]
  refine ⟨by simp, fun x hx => ?_⟩
  simp only [List.mem_cons, List.not_mem_nil, or_false] at hx
  rcases hx with rfl | rfl | rfl
  · exact pl_int _ _
  · exact pl_opt _ _
  · exact pl_ints n _ h
theorem after_len2 (l : Link) (s : St) (now : Int) : (after l s now).2.length ≤ 2 := by
  unfold after
  split
  · show ([] : List Int).length ≤ 2; simp
  · show (if _ then _ else _ : List Int).length ≤ 2
    split <;> simp
theorem pl_after (l : Link) (s : St) (now : Int) (h : s.wait.length ≤ 1000) : pl 3 (afterV (after l s now)) := by
  have h1 := after_len l s now
  have h2 := after_len2 l s now
  unfold afterV
  simp only [pl]
  refine ⟨by simp, fun x hx => ?_⟩
  simp only [List.mem_cons, List.not_mem_nil, or_false] at hx
  rcases hx with rfl | rfl
  · exact pl_st 0 _ (by omega)
  · exact pl_ints 1 _ (by omega)
theorem same_after (k : Nat) (h : MH) (l : Link) (s : St) (now : Int) (hw : s.wait.length ≤ 1000) : run g (k + 4) "_law_same" [afterV (after l s now), afterV (after l s now)] h = some (.bl true, h) :=
  run_same hsame 3 _ (pl_after l s now hw) k h
theorem same_told (k : Nat) (h : MH) (l : Link) (s : St) (now : Int) : run g (k + 4) "_law_same" [intsV (after l s now).2, intsV (after l s now).2] h = some (.bl true, h) :=
  run_same hsame 1 _ (pl_ints 0 _ (by have := after_len2 l s now; omega)) (k + 2) h
theorem same_int (k : Nat) (h : MH) (i : Int) : run g (k + 4) "_law_same" [.int i, .int i] h = some (.bl true, h) := run_same hsame 0 _ (pl_int _ _) (k + 3) h
def worst (l : Link) : Int := l.slow + l.every * l.room
theorem run_worst (k : Nat) (h : MH) (l : Link) (ok : l.Ok) : run g (k + 1) "worst" [l.mv] h = some (.int (worst l), h) := by
  rw [run_def (i := fn_worst) rfl rfl]
  unfold fn_worst worst
  have := ok.every
  have hb : -18446744073709551616 < l.every ∧ l.every < 18446744073709551616 := by omega
  simp -implicitDefEqProofs [hb]
def stN (l : Link) (s0 : St) (now : Int) : Nat → St
  | 0 => s0
  | j + 1 => (after l (stN l s0 now j) now).1
theorem stN_len (l : Link) (s0 : St) (now : Int) (h0 : s0.wait = []) : ∀ j, (stN l s0 now j).wait.length ≤ j
  | 0 => by simp [stN, h0]
  | j + 1 => by
    have := stN_len l s0 now h0 j
    have := after_len l (stN l s0 now j) now
    show (after l (stN l s0 now j) now).1.wait.length ≤ j + 1
    omega
def waits (now every : Int) (j : Nat) : List Int := (List.range j).map fun (i : Nat) => now + ((i : Int) + 1) * every
theorem waits_len (now every : Int) (j : Nat) : (waits now every j).length = j := by simp [waits]
theorem waits_kept (now every : Int) (j : Nat) (h : 0 < every) : kept (waits now every j) now = waits now every j := by
  unfold kept
  rw [List.filter_eq_self]
  intro a ha
  obtain ⟨i, _, rfl⟩ := List.mem_map.mp ha
  have : 0 < ((i : Int) + 1) * every := Int.mul_pos (by omega) h
  have : now < now + ((i : Int) + 1) * every := by omega
  simpa using this
theorem waits_succ (now every : Int) (j : Nat) : waits now every (j + 1) = waits now every j ++ [now + ((j : Int) + 1) * every] := by
  simp [waits, List.range_succ]
theorem stN_eq (l : Link) (s0 : St) (now : Int) (hd : l.drops = []) (hdo : l.doubles = []) (hla : l.lates = []) (he : 0 < l.every) (hr : 1 ≤ l.room) (h0 : s0.wait = []) (hl : ∀ x, s0.last = some x → x + l.every ≤ now) :
    ∀ j : Nat, (j : Int) ≤ l.room → (after l (stN l s0 now j) now).2 = [now + (j : Int) * l.every + l.slow] ∧ (stN l s0 now (j + 1)).last = some (now + (j : Int) * l.every) ∧ (stN l s0 now (j + 1)).wait = waits now l.every j
  | 0, _ => by
    have e1 : stN l s0 now 0 = s0 := rfl
    have e2 : stN l s0 now 1 = (after l s0 now).1 := rfl
    have ek : kept s0.wait now = [] := by simp [h0, kept]
    have ef : full l [] = false := by
      have : ¬ l.room ≤ 0 := by omega
      simp [full, this]
    have lv : leaves l s0.last now = now := by
      unfold leaves
      cases h : s0.last with
      | none => rfl
      | some x =>
        have := hl x h
        simp [he, mx]
        omega
    rw [e1, e2]
    simp [after, hd, hdo, hla, has, ek, ef, lv, moreL, waits]
  | j + 1, hj => by
    obtain ⟨i1, i2, i3⟩ := stN_eq l s0 now hd hdo hla he hr h0 hl j (by omega)
    have e2 : stN l s0 now (j + 1 + 1) = (after l (stN l s0 now (j + 1)) now).1 := rfl
    have ek : kept (stN l s0 now (j + 1)).wait now = waits now l.every j := by rw [i3, waits_kept _ _ _ he]
    have ef : full l (waits now l.every j) = false := by
      have : ¬ l.room ≤ (j : Int) := by omega
      simp [full, waits_len, this]
    have em : ((j : Int) + 1) * l.every = (j : Int) * l.every + l.every := by rw [Int.add_mul, Int.one_mul]
    have hp : 0 ≤ (j : Int) * l.every := Int.mul_nonneg (by omega) (by omega)
    have lv : leaves l (stN l s0 now (j + 1)).last now = now + ((j : Int) + 1) * l.every := by
      rw [i2, em]
      simp [leaves, he, mx]
      omega
    have hlt : now < now + ((j : Int) + 1) * l.every := by omega
    rw [e2]
    have c1 : (after l (stN l s0 now (j + 1)) now) = (⟨(stN l s0 now (j + 1)).place + 1, some (now + ((j : Int) + 1) * l.every), waits now l.every (j + 1)⟩, [now + ((j : Int) + 1) * l.every + l.slow]) := by
      simp [after, hd, hdo, hla, has, ek, ef, lv, moreL, waits_succ, hlt]
    rw [c1]
    exact ⟨by simp, by simp, rfl⟩
end K93
namespace K93
open PySem MP
/-- from a state with nothing waiting: the room is filled, the worst wait met, the next lost alike -/
theorem run_reached (k : Nat) (xs : List Int) (t : Tape) (r : List MO) (l : Link) (ok : l.Ok) (hr : 0 < l.every → 1 ≤ l.room) :
    ∃ t', run g (k + 5) "_law_reached" [.ref 1, l.mv] (HT xs t r) = some (.bl true, HT xs t' r) := by
  let b : Link := ⟨l.e0, l.e1, l.slow, l.every, l.room, [], [], []⟩
  have hb : b.Ok := ⟨ok.every, ok.room, by simp [b], by simp [b]⟩
  obtain ⟨d1, t1, hd1, e1⟩ := draw_ex hd xs t 100000 (by decide) (by decide)
  obtain ⟨d2, t2, hd2, e2⟩ := draw_ex hd xs t1 2 (by decide) (by decide)
  have e1 := e1 (k + 3) r
  have e2 := e2 (k + 3) r
  have eb : binM .add (HT xs t r) (.tup [.int l.e0, .int l.e1, .int l.slow, .int l.every, .int l.room]) (.tup [.tup [], .tup [], .tup []]) = some (b.mv, HT xs t r) := rfl
  have es : MV.tup [.int 0, .non, .tup []] = St.mv ⟨0, none, []⟩ := rfl
  obtain ⟨s0, now, t3, h0, hl, e3⟩ : ∃ (s0 : St) (now : Int) (t3 : Tape), s0.wait = [] ∧ (∀ x, s0.last = some x → x + l.every ≤ now) ∧ ∀ y5 y6 y7, evS g (run g (k + 4)) (.ite (.cmp .eq (.call "_law_draw" [.var 0, .int 2]) (.int 0)) [
    .asg (.nm 3) (.tup [.call "_law_draw" [.var 0, .int 1000], .var 4, .tup []]),
    .asg (.nm 4) (.bin .add (.bin .add (.var 4) (.idx (.var 1) (.int 3))) (.call "_law_draw" [.var 0, .int 3]))] []) [some (.ref 1), some l.mv, some b.mv, some (St.mv ⟨0, none, []⟩), some (.int d1), y5, y6, y7] (HT xs t1 r) = some ⟨.nx, [some (.ref 1), some l.mv, some b.mv, some s0.mv, some (.int now), y5, y6, y7], HT xs t3 r⟩ := by
    by_cases c : d2 = 0
    · subst c
      obtain ⟨d3, t3, _, e3⟩ := draw_ex hd xs t2 1000 (by decide) (by decide)
      obtain ⟨d4, t4, _, e4⟩ := draw_ex hd xs t3 3 (by decide) (by decide)
      have e3 := e3 (k + 3) r
      have e4 := e4 (k + 3) r
      refine ⟨⟨d3, some d1, []⟩, d1 + l.every + d4, t4, rfl, fun x hx => (by cases hx; omega), fun y5 y6 y7 => ?_⟩
      have es2 : MV.tup [.int d3, .int d1, .tup []] = St.mv ⟨d3, some d1, []⟩ := rfl
      simp -implicitDefEqProofs [e2, e3, e4, es2]
    · have c2 : ¬ (d2 : Int) = 0 := by omega
      exact ⟨⟨0, none, []⟩, d1, t2, rfl, fun x hx => (by cases hx), fun y5 y6 y7 => by simp -implicitDefEqProofs [e2, c, c2]⟩
  obtain ⟨N, hN⟩ : ∃ N : Nat, l.room = N := ⟨l.room.toNat, by have := ok.room; omega⟩
  have hN2 : N ≤ 21 := by have := ok.room; omega
  have hs : ∀ j, (stN b s0 now j).wait.length ≤ j := stN_len b s0 now h0
  let I : List MV → MP.Env → MH → Prop := fun its e h => ∃ (j : Nat) (y5 y6 y7 : Option MV), e = [some (.ref 1), some l.mv, some b.mv, some (stN b s0 now j).mv, some (.int now), y5, y6, y7] ∧ h = HT xs t3 r ∧ (∀ i, j = i + 1 → y6 = some (afterV (after b (stN b s0 now i) now))) ∧ j + its.length = N + 1
  have loop := forL_rel (tgt := .nm 5) (st := ⟨(List.range (N + 1)).map fun i => MV.int ((i : Nat) : Int), none⟩) (body := fBody g (run g (k + 4)) [.asg (.nm 6) (.call "hand" [.var 2, .var 3, .var 4]),
    .asg (.nm 7) (.call "_law_handed" [.var 2, .var 3, .var 4]),
    .ite (.not (.call "_law_same" [.var 6, .var 7])) [
      .ret (.bl false)] [],
    .asg (.nm 3) (.idx (.var 7) (.int 0))]) I (fun _ _ _ _ => by unfold Its.still; trivial) (fun v vs e h i => by
      obtain ⟨j, y5, y6, y7, rfl, rfl, i1, i2⟩ := i
      simp only [List.length_cons] at i2
      have hj := hs j
      have f1 := run_hand (k + 2) (HT xs t3 r) b hb (stN b s0 now j) (by omega) now
      have f2 := run_handed (k + 3) (HT xs t3 r) b hb (stN b s0 now j) (by omega) now
      have f3 := same_after k (HT xs t3 r) b (stN b s0 now j) now (by omega)
      refine ⟨_, ⟨.nx, [some (.ref 1), some l.mv, some b.mv, some (stN b s0 now (j + 1)).mv, some (.int now), some v, some (afterV (after b (stN b s0 now j) now)), some (afterV (after b (stN b s0 now j) now))], HT xs t3 r⟩, by simp [bindT]; rfl, ?_, .inl rfl, j + 1, some v, some (afterV (after b (stN b s0 now j) now)), some (afterV (after b (stN b s0 now j) now)), rfl, rfl, ?_, by omega⟩
      · simp -implicitDefEqProofs [f1, f2, f3]
        rfl
      · intro i hi
        have : i = j := by omega
        subst this
        rfl)
  obtain ⟨e', h', q1, j, y5, y6, y7, rfl, rfl, q2, q3⟩ := loop ((List.range (N + 1)).map fun i => MV.int ((i : Nat) : Int)) [some (.ref 1), some l.mv, some b.mv, some s0.mv, some (.int now), none, none, none] (HT xs t3 r) ⟨0, none, none, none, rfl, rfl, by intro i hi; omega, by simp⟩
  have hj : j = N + 1 := by simpa using q3
  subst hj
  have q2 := q2 N rfl
  subst q2
  have f0 := hs (N + 1)
  have f1 := run_hand (k + 2) (HT xs t3 r) b hb (stN b s0 now (N + 1)) (by omega) now
  have f2 := run_handed (k + 3) (HT xs t3 r) b hb (stN b s0 now (N + 1)) (by omega) now
  have f3 := same_told k (HT xs t3 r) b (stN b s0 now (N + 1)) now
  have f4 := run_worst (k + 3) (HT xs t3 r) b hb
  refine ⟨t3, ?_⟩
  rw [run_def (i := fn_law_reached) rfl rfl]
  unfold fn_law_reached
  have ir : itsG .rng1 (HT xs t3 r) ([.int (l.room + 1)], HT xs t3 r) = some (⟨(List.range (N + 1)).map fun i => MV.int ((i : Nat) : Int), none⟩, HT xs t3 r) := by
    rw [hN]
    exact its_rng0 (n := N + 1) (by omega)
  have db : b.mv.data = true := by simp
  by_cases c : 0 < l.every
  · have eq := (stN_eq b s0 now rfl rfl rfl c (hr c) h0 hl N (by show (N : Int) ≤ l.room; omega)).1
    have a1 : ∀ h x, atM h (intsV [x]) (.int 0) = some (.int x) := fun h x => rfl
    have ew : now + (N : Int) * b.every + b.slow - now = worst b := by
      show now + (N : Int) * l.every + l.slow - now = l.slow + l.every * l.room
      rw [hN, Int.mul_comm l.every]; omega
    simp -implicitDefEqProofs [-evS_ite, e1, es, lsl5, eb, e3, ir, q1]
    simp -implicitDefEqProofs [c, eq, a1, ew, f1, f2, f3, f4]
  · simp -implicitDefEqProofs [-evS_ite, e1, es, lsl5, eb, e3, ir, q1]
    simp -implicitDefEqProofs [c, f1, f2, f3]
end K93
namespace K93
open PySem MP
/-- a row that may be asked -/
def RowOk (v : MV) : Prop := ∃ (l : Link) (p : St × Int), v = rowM l p ∧ l.Ok ∧ p.1.wait.length ≤ 40
theorem row_data {v : MV} (h : RowOk v) : v.data = true := by
  obtain ⟨l, p, rfl, _, _⟩ := h; simp
theorem rows_ok {vs : List MV} (h : ∀ v ∈ vs, RowOk v) : dataAll vs = true := dataAll_iff.mpr fun v hv => row_data (h v hv)
section
variable (h : MH) (l : Link) (p : St × Int)
@[simp] theorem row0 : atM h (rowM l p) (.int 0) = some l.mv := rfl
@[simp] theorem row1 : atM h (rowM l p) (.int 1) = some p.1.mv := rfl
@[simp] theorem row2 : atM h (rowM l p) (.int 2) = some (.int p.2) := rfl
end
theorem htape : g.fns.lookup ("_law_tape" : Str) = some fnTape := rfl
theorem horder : g.fns.lookup ("_law_order" : Str) = some fnOrder := rfl
theorem hturns : g.fns.lookup ("_law_turns" : Str) = some fnTurns := rfl
/-- the door of the rows -/
theorem door0 (k : Nat) (e0 e1 e2 e3 e4 e5 e7 : Option MV) (d : MV) (h : MH) (vs : List MV) (hv : ∀ v ∈ vs, RowOk v) (p : Nat) (hp : h[p]? = some (.lst vs)) : ∀ (ws : List MV), (∀ v ∈ ws, v ∈ vs) → ∀ e6, ∃ e6', forL (.nm 6) ⟨vs, some (p, vs)⟩ (fBody g (run g (k + 4)) [
        .ite (.not (.call "_law_same" [.call "hand" [.idx (.var 6) (.int 0), .idx (.var 6) (.int 1), .idx (.var 6) (.int 2)], .call "_law_handed" [.idx (.var 6) (.int 0), .idx (.var 6) (.int 1), .idx (.var 6) (.int 2)]])) [
          .ret (.bl false)] []]) ws [e0, e1, e2, e3, e4, e5, e6, e7, some d] h = some ⟨.nx, [e0, e1, e2, e3, e4, e5, e6', e7, some d], h⟩
  | [], _, e6 => ⟨e6, by simp only [forL, if_pos (show Its.still ⟨vs, some (p, vs)⟩ h from hp)]⟩
  | v :: ws, hw, e6 => by
    obtain ⟨l, q, rfl, ok, hl⟩ := hv v (hw v List.mem_cons_self)
    obtain ⟨e6', ih⟩ := door0 k e0 e1 e2 e3 e4 e5 e7 d h vs hv p hp ws (fun u hu => hw u (List.mem_cons_of_mem _ hu)) (some (rowM l q))
    refine ⟨e6', ?_⟩
    have f1 := run_hand (k + 2) h l ok q.1 (by omega) q.2
    have f2 := run_handed (k + 3) h l ok q.1 (by omega) q.2
    have f3 := same_after k h l q.1 q.2 (by omega)
    simp only [forL, if_pos (show Its.still ⟨vs, some (p, vs)⟩ h from hp)]
    simp -implicitDefEqProofs [f1, f2, f3]
    exact ih
theorem door1 (k : Nat) (e0 e1 e2 e3 e4 e5 e7 : Option MV) (d : MV) (h : MH) (vs : List MV) (p : Nat) (hp : h[p]? = some (.lst vs)) : ∀ (ws : List Link), (∀ l ∈ ws, l.Ok) → ∀ e6, ∃ e6', forL (.nm 6) ⟨vs, some (p, vs)⟩ (fBody g (run g (k + 4)) [
        .ite (.not (.call "_law_same" [.call "worst" [.var 6], .bin .add (.idx (.var 6) (.int 2)) (.bin .mul (.idx (.var 6) (.int 3)) (.idx (.var 6) (.int 4)))])) [
          .ret (.bl false)] []]) (ws.map Link.mv) [e0, e1, e2, e3, e4, e5, e6, e7, some d] h = some ⟨.nx, [e0, e1, e2, e3, e4, e5, e6', e7, some d], h⟩
  | [], _, e6 => ⟨e6, by simp only [List.map_nil, forL, if_pos (show Its.still ⟨vs, some (p, vs)⟩ h from hp)]⟩
  | l :: ws, hw, e6 => by
    obtain ⟨e6', ih⟩ := door1 k e0 e1 e2 e3 e4 e5 e7 d h vs p hp ws (fun u hu => hw u (List.mem_cons_of_mem _ hu)) (some l.mv)
    refine ⟨e6', ?_⟩
    have ok := hw l List.mem_cons_self
    have ev := ok.every
    have hb : -18446744073709551616 < l.every ∧ l.every < 18446744073709551616 := by omega
    have f1 := run_worst (k + 3) h l ok
    have f3 := same_int k h (worst l)
    have ew : l.slow + l.every * l.room = worst l := rfl
    simp only [List.map_cons, forL, if_pos (show Its.still ⟨vs, some (p, vs)⟩ h from hp)]
    simp -implicitDefEqProofs [f1, hb, ew, f3]
    exact ih
end K93
namespace K93
open PySem MP
theorem cut_map {α : Type} (f : α → MV) (ps : List α) (lo hi : Option Int) : ∃ qs : List α, cutM (ps.map f) lo hi = qs.map f ∧ (∀ q ∈ qs, q ∈ ps) ∧ qs.length ≤ ps.length := by
  refine ⟨(ps.drop (HT.sIx (ps.map f).length 0 lo)).take (HT.sIx (ps.map f).length (ps.map f).length hi - HT.sIx (ps.map f).length 0 lo), ?_, fun q hq => List.mem_of_mem_drop (List.mem_of_mem_take hq), ?_⟩
  · unfold cutM
    rw [List.map_take, List.map_drop]
  · simp; omega
theorem loop_law (k : Nat) (xs : List Int) (r : List MO) (l bent : Link) (ok : l.Ok) (okb : bent.Ok) (hr : 0 < l.every → 1 ≤ l.room) (sc : Option MV) (a b : MO) (asked turns : List MV) (ha : ∀ v ∈ asked, RowOk v) (hal : asked.length ≤ 1000)
    (ht : ∀ z ∈ turns, ∃ i : Nat, i < 3 ∧ z = .int i) (t : Tape) (y6 y8 : Option MV) :
    ∃ e' h', forL (.nm 8) ⟨turns, some (r.length + 5, turns)⟩ (fBody g (run g (k + 5)) [
    .ite (.cmp .eq (.var 8) (.int 0)) [
      .for_ (.nm 6) .ex [.bin .add (.var 7) (.slice (.var 7) .non (.int 1))] [
        .ite (.not (.call "_law_same" [.call "hand" [.idx (.var 6) (.int 0), .idx (.var 6) (.int 1), .idx (.var 6) (.int 2)], .call "_law_handed" [.idx (.var 6) (.int 0), .idx (.var 6) (.int 1), .idx (.var 6) (.int 2)]])) [
          .ret (.bl false)] []]] [],
    .ite (.cmp .eq (.var 8) (.int 1)) [
      .for_ (.nm 6) .ex [.lst [.var 2, .var 3, .var 2]] [
        .ite (.not (.call "_law_same" [.call "worst" [.var 6], .bin .add (.idx (.var 6) (.int 2)) (.bin .mul (.idx (.var 6) (.int 3)) (.idx (.var 6) (.int 4)))])) [
          .ret (.bl false)] []]] [],
    .ite (.and (.cmp .eq (.var 8) (.int 2)) (.not (.call "_law_reached" [.var 1, .var 2]))) [
      .ret (.bl false)] []]) turns [sc, some (.ref 1), some l.mv, some bent.mv, some (.ref (r.length + 2)), some (.ref (r.length + 3)), y6, some (.ref (r.length + 4)), y8] (HT xs t (r ++ [a, b, .lst asked, .lst turns])) = some ⟨.nx, e', h'⟩ := by
  let I : List MV → MP.Env → MH → Prop := fun its e h => ∃ (t : Tape) (j : List MO) (y6 y8 : Option MV), e = [sc, some (.ref 1), some l.mv, some bent.mv, some (.ref (r.length + 2)), some (.ref (r.length + 3)), y6, some (.ref (r.length + 4)), y8] ∧ h = HT xs t (r ++ a :: b :: .lst asked :: .lst turns :: j) ∧ ∀ z ∈ its, ∃ i : Nat, i < 3 ∧ z = .int i
  have loop := forL_rel (tgt := .nm 8) (st := ⟨turns, some (r.length + 5, turns)⟩) (body := fBody g (run g (k + 5)) [
    .ite (.cmp .eq (.var 8) (.int 0)) [
      .for_ (.nm 6) .ex [.bin .add (.var 7) (.slice (.var 7) .non (.int 1))] [
        .ite (.not (.call "_law_same" [.call "hand" [.idx (.var 6) (.int 0), .idx (.var 6) (.int 1), .idx (.var 6) (.int 2)], .call "_law_handed" [.idx (.var 6) (.int 0), .idx (.var 6) (.int 1), .idx (.var 6) (.int 2)]])) [
          .ret (.bl false)] []]] [],
    .ite (.cmp .eq (.var 8) (.int 1)) [
      .for_ (.nm 6) .ex [.lst [.var 2, .var 3, .var 2]] [
        .ite (.not (.call "_law_same" [.call "worst" [.var 6], .bin .add (.idx (.var 6) (.int 2)) (.bin .mul (.idx (.var 6) (.int 3)) (.idx (.var 6) (.int 4)))])) [
          .ret (.bl false)] []]] [],
    .ite (.and (.cmp .eq (.var 8) (.int 2)) (.not (.call "_law_reached" [.var 1, .var 2]))) [
      .ret (.bl false)] []]) I (fun its e h i => by
        obtain ⟨t, j, y6, y8, rfl, rfl, _⟩ := i
        exact HTg3 xs t r j a b _ _) (fun v vs e h i => by
      obtain ⟨t, j, y6, y8, rfl, rfl, hz⟩ := i
      obtain ⟨d, hd3, rfl⟩ := hz v List.mem_cons_self
      have hz' : ∀ z ∈ vs, ∃ i : Nat, i < 3 ∧ z = .int i := fun z h => hz z (List.mem_cons_of_mem _ h)
      have hd3 : d = 0 ∨ d = 1 ∨ d = 2 := by omega
      rcases hd3 with rfl | rfl | rfl
      · obtain ⟨H, hH⟩ : ∃ H, H = HT xs t (r ++ a :: b :: .lst asked :: .lst turns :: j) := ⟨_, rfl⟩
        have hg : H[r.length + 4]? = some (.lst asked) := by rw [hH]; exact HTg2 xs t r _ a b _
        have hlt : r.length + 4 < H.length := by
          rcases Nat.lt_or_ge (r.length + 4) H.length with q | q
          · exact q
          · rw [List.getElem?_eq_none q] at hg; cases hg
        let sl := cutM asked none (some 1)
        have hsl : ∀ v ∈ sl, v ∈ asked := fun v hv => List.mem_of_mem_drop (List.mem_of_mem_take hv)
        have hsll : sl.length ≤ asked.length := cutM_len _ _ _
        have e1 := slice_ref H asked (p := r.length + 4) (l := none) (u := some 1) hg
        have hg2 : (H ++ [MO.lst sl])[r.length + 4]? = some (.lst asked) := by rw [List.getElem?_append_left hlt]; exact hg
        have e2 := add_ref (h := H ++ [.lst sl]) (p := r.length + 4) (q := H.length) (a := asked) (b := sl) hg2 (by simp) (by omega)
        have hv : ∀ v ∈ asked ++ sl, RowOk v := fun v hv => by
          rcases List.mem_append.mp hv with w | w
          · exact ha v w
          · exact ha v (hsl v w)
        have e3 : itsG .ex H ([.ref (H.length + 1)], H ++ [.lst sl, .lst (asked ++ sl)]) = some (⟨asked ++ sl, some (H.length, asked ++ sl)⟩, H ++ [.lst (asked ++ sl)]) := its_ref (gc_new1 H [] (.lst sl) (asked ++ sl) (rows_ok hv)) (by simp)
        obtain ⟨e6', e4⟩ := door0 (k + 1) sc (some (.ref 1)) (some l.mv) (some bent.mv) (some (.ref (r.length + 2))) (some (.ref (r.length + 3))) (some (.ref (r.length + 4))) (.int 0) (H ++ [.lst (asked ++ sl)]) (asked ++ sl) hv H.length (by simp) (asked ++ sl) (fun _ h => h) y6
        refine ⟨_, ⟨.nx, [sc, some (.ref 1), some l.mv, some bent.mv, some (.ref (r.length + 2)), some (.ref (r.length + 3)), e6', some (.ref (r.length + 4)), some (.int 0)], H ++ [.lst (asked ++ sl)]⟩, by simp [bindT]; rfl, ?_, .inl rfl, t, j ++ [.lst (asked ++ sl)], e6', some (.int 0), rfl, by rw [hH]; simp, hz'⟩
        rw [← hH]
        simp only [List.length_append, List.length_cons, List.length_nil] at e2
        simp -implicitDefEqProofs [e1, sl] at e2 e3 e4 ⊢
        simp -implicitDefEqProofs [e2, e3, e4]
      · obtain ⟨H, hH⟩ : ∃ H, H = HT xs t (r ++ a :: b :: .lst asked :: .lst turns :: j) := ⟨_, rfl⟩
        have dl : dataAll [l.mv, bent.mv, l.mv] = true := by simp
        have e3 : itsG .ex H ([.ref H.length], H ++ [.lst [l.mv, bent.mv, l.mv]]) = some (⟨[l.mv, bent.mv, l.mv], some (H.length, [l.mv, bent.mv, l.mv])⟩, H ++ [.lst [l.mv, bent.mv, l.mv]]) := its_ref (gc_new H [] _ dl) (by simp)
        obtain ⟨e6', e4⟩ := door1 (k + 1) sc (some (.ref 1)) (some l.mv) (some bent.mv) (some (.ref (r.length + 2))) (some (.ref (r.length + 3))) (some (.ref (r.length + 4))) (.int 1) (H ++ [.lst [l.mv, bent.mv, l.mv]]) [l.mv, bent.mv, l.mv] H.length (by simp) [l, bent, l] (fun l h => by simp at h; rcases h with rfl | rfl | rfl <;> assumption) y6
        refine ⟨_, ⟨.nx, [sc, some (.ref 1), some l.mv, some bent.mv, some (.ref (r.length + 2)), some (.ref (r.length + 3)), e6', some (.ref (r.length + 4)), some (.int 1)], H ++ [.lst [l.mv, bent.mv, l.mv]]⟩, by simp [bindT]; rfl, ?_, .inl rfl, t, j ++ [.lst [l.mv, bent.mv, l.mv]], e6', some (.int 1), rfl, by rw [hH]; simp, hz'⟩
        rw [← hH]
        simp only [List.map_cons, List.map_nil] at e4
        simp -implicitDefEqProofs [e3, e4]
      · obtain ⟨t', e1⟩ := run_reached k xs t (r ++ a :: b :: .lst asked :: .lst turns :: j) l ok hr
        refine ⟨_, ⟨.nx, [sc, some (.ref 1), some l.mv, some bent.mv, some (.ref (r.length + 2)), some (.ref (r.length + 3)), y6, some (.ref (r.length + 4)), some (.int 2)], HT xs t' (r ++ a :: b :: .lst asked :: .lst turns :: j)⟩, by simp [bindT]; rfl, ?_, .inl rfl, t', j, y6, some (.int 2), rfl, rfl, hz'⟩
        simp -implicitDefEqProofs [e1])
  obtain ⟨e', h', q1, _⟩ := loop turns _ _ ⟨t, [], y6, y8, rfl, rfl, ht⟩
  exact ⟨e', h', q1⟩
end K93
namespace K93
open PySem MP
theorem law_rest (k : Nat) (xs : List Int) (t : Tape) (r : List MO) (sc : Option MV) : ∃ e' h', evSs g (run g (k + 5)) (fn_law.body.drop 1) [sc, some (.ref 1), none, none, none, none, none, none, none] (HT xs t r) = some ⟨.rt (.bl true), e', h'⟩ := by
  obtain ⟨l, t1, e1, ok, hr, _⟩ := run_link k xs t r
  obtain ⟨bent, t2, e2, okb⟩ := run_bent k xs t1 r l ok
  obtain ⟨n, t3, hn, e3⟩ := pick_int hd hp xs t2 [12, 16, 24, 40] (by simp) (by decide)
  have e3 := e3 (k + 3) r
  simp only [List.map_cons, List.map_nil] at e3
  simp only [List.mem_cons, List.not_mem_nil, or_false] at hn
  obtain ⟨N, rfl⟩ : ∃ N : Nat, n = N := ⟨n.toNat, by omega⟩
  obtain ⟨rows, t4, e4, h4, h4'⟩ := run_run (k + 1) xs t3 (r ++ [.lst [.int 12, .int 16, .int 24, .int 40]]) l ok N (by omega)
  obtain ⟨d, t5, _, e5⟩ := draw_ex hd xs t4 12 (by decide) (by decide)
  have e5 := e5 (k + 4) (r ++ [.lst (rows.map (rowM l))])
  obtain ⟨cut, hc, hc', hcl⟩ := cut_map (rowM l) rows (some (d : Int)) none
  obtain ⟨c2, hc2, hc2', hcl2⟩ := cut_map (rowM bent) cut none (some 12)
  have k1 := comp_T (g := g) (cf := run g (k + 5)) (i := 6) (cs := []) (elt := .tup [.var 3, .idx (.var 6) (.int 1), .idx (.var 6) (.int 2)]) (env := [sc, some (.ref 1), some l.mv, some bent.mv, some (.ref (r.length + 2)), none, none, none, none]) (h := HT xs t5 (r ++ [.lst (rows.map (rowM l)), .lst (cut.map (rowM l))])) (st := ⟨cut.map (rowM l), some (r.length + 3, cut.map (rowM l))⟩)
    (rowM l) (fun _ => true) (rowM bent) cut (by unfold Its.still; exact HTg1 xs t5 r [] _ _) (fun a _ => by simp) (fun a ha _ => ⟨[], by simp; rfl, by simp⟩)
  have i1 : itsG .ex (HT xs t4 (r ++ [.lst (rows.map (rowM l))])) ([.ref (r.length + 3)], HT xs t5 (r ++ [.lst (rows.map (rowM l)), .lst (cut.map (rowM l))])) = some (⟨cut.map (rowM l), some (r.length + 3, cut.map (rowM l))⟩, HT xs t5 (r ++ [.lst (rows.map (rowM l)), .lst (cut.map (rowM l))])) := its_ref (gcHn01 xs t4 t5 r [] _ _ (by simp)) (HTg1 ..)
  have a1 := add_ref (h := HT xs t5 (r ++ [.lst (rows.map (rowM l)), .lst (cut.map (rowM bent)), .lst (c2.map (rowM bent))])) (p := r.length + 2) (q := r.length + 4) (HTg0 ..) (HTg2 ..) (by simp; omega)
  let all := rows.map (rowM l) ++ c2.map (rowM bent)
  have hall : ∀ v ∈ all, RowOk v := fun v hv => by
    rcases List.mem_append.mp hv with w | w
    · obtain ⟨p, hp, rfl⟩ := List.mem_map.mp w
      exact ⟨l, p, rfl, ok, h4' p hp⟩
    · obtain ⟨p, hp, rfl⟩ := List.mem_map.mp w
      exact ⟨bent, p, rfl, okb, h4' p (hc' p (hc2' p hp))⟩
  have hlen : all.length ≤ 1000 := by simp [all]; omega
  obtain ⟨t6, asked, e6, h6, h6'⟩ := run_order (k := k + 3) hd horder xs t5 (r ++ [.lst (rows.map (rowM l)), .lst (cut.map (rowM bent)), .lst (c2.map (rowM bent)), .lst all]) (p := r.length + 3) (ys := all) (getA3 ..) (by omega) (rows_ok hall)
  have hask : ∀ v ∈ asked, RowOk v := fun v hv => hall v (h6' v hv)
  obtain ⟨t7, turns, e7, h7, h7'⟩ := run_turns (k := k + 3) hd hturns xs t6 (r ++ [.lst (rows.map (rowM l)), .lst (cut.map (rowM bent)), .lst asked]) 3 (by decide)
  have dt : dataAll turns = true := dataAll_iff.mpr fun z hz => by obtain ⟨i, _, rfl⟩ := h7' z hz; simp
  have i2 : itsG .ex (HT xs t6 (r ++ [.lst (rows.map (rowM l)), .lst (cut.map (rowM bent)), .lst asked])) ([.ref (r.length + 5)], HT xs t7 (r ++ [.lst (rows.map (rowM l)), .lst (cut.map (rowM bent)), .lst asked, .lst turns])) = some (⟨turns, some (r.length + 5, turns)⟩, HT xs t7 (r ++ [.lst (rows.map (rowM l)), .lst (cut.map (rowM bent)), .lst asked, .lst turns])) := its_ref (gcHn03 xs t6 t7 r [] _ _ _ _ dt) (HTg3 ..)
  obtain ⟨e', h', q⟩ := loop_law k xs r l bent ok okb hr sc (.lst (rows.map (rowM l))) (.lst (cut.map (rowM bent))) asked turns hask (by omega) h7' t7 none none
  have ft : cut.filter (fun _ => true) = cut := List.filter_eq_self.mpr fun _ _ => rfl
  rw [ft] at k1
  have s1 := slice_ref (HT xs t5 (r ++ [.lst (rows.map (rowM l)), .lst (cut.map (rowM bent))])) (cut.map (rowM bent)) (p := r.length + 3) (l := none) (u := some 12) (HTg1 ..)
  rw [hc2] at s1
  have da : dataAll asked = true := rows_ok hask
  refine ⟨e', h', ?_⟩
  unfold fn_law
  simp only [List.drop_succ_cons, List.drop_zero]
  have eall : rows.map (rowM l) ++ c2.map (rowM bent) = all := rfl
  rw [eall] at a1
  simp at e4 e6 e7 s1 a1
  simp -implicitDefEqProofs [e1, e2, e3, e4, gcHn1, e5, hc, i1, k1, gcHn11]
  simp -implicitDefEqProofs [s1, a1, e6, gcHn22, da]
  simp -implicitDefEqProofs [e7, i2, q]
end K93
namespace K93
open PySem MP
theorem law_true (ns : List Int) (hl : ns.length ≤ 63) : ∃ h', MP.run K93.g 40 "law" [MP.scriptM ns] [] = some (.bl true, h') := by
  obtain ⟨total, e1⟩ := run_tape (g := g) (k := 38) htape ns
  obtain ⟨e', h', q⟩ := law_rest 34 ns ⟨0, 0, total⟩ [] (some (scriptM ns))
  refine ⟨(gc [] (.bl true, h')).2, ?_⟩
  have hg : ∀ h : MH, gc [] (.bl true, h) = (.bl true, []) := fun h => gc_app (h := []) (j := h) (by simp)
  rw [run_def (i := fn_law) rfl rfl]
  have eb : fn_law.body = .asg (.nm 1) (.call "_law_tape" [.var 0]) :: fn_law.body.drop 1 := rfl
  rw [eb]
  have e1' : run g 39 "_law_tape" [scriptM ns] [] = some (.ref 1, HT ns ⟨0, 0, total⟩ []) := e1
  have q' : evSs g (run g 39) (fn_law.body.drop 1) [some (scriptM ns), some (.ref 1), none, none, none, none, none, none, none] (HT ns ⟨0, 0, total⟩ []) = some ⟨.rt (.bl true), e', h'⟩ := q
  generalize fn_law.body.drop 1 = rest at q' ⊢
  have en : fn_law.names.length = 9 := rfl
  simp -implicitDefEqProofs [e1', gcTape, en, List.replicate, q', hg]
end K93
open PySem PySem.W PyProof.Rows in
theorem PySem.Challenge.cw_sealedlink_k93_links_and_the_worst_wait_holds : PySem.Challenge.rw_sealedlink_k93_links_and_the_worst_wait.Holds := by
  w_on; o_law; k_head; (case hw => w_witness2)
  k_fill
  refine L2.walk_ofK (l := PySem.Challenge.rw_sealedlink_k93_links_and_the_worst_wait) (n := 63) (k := 40) (x := "script") (CX := L2.CX0) (sp := fun K => MP.spM K K93.g 40 "law") rfl (by decide) rfl ⟨rfl, by decide, by decide⟩ (fun w h Y => PySem.W.kIn_of Y) ?F (fun K H a ns hl ho hS => MP.sp_law (i := K93.fn_law) rfl rfl hl ho hS (K93.law_true ns hl)) (fun _ _ _ _ h => h)
  case F =>
    intro w mg fa h KX G hmg
    refine' K93.fin 39 KX G hmg ?d0 ?d1 ?d2 ?d3 ?d4 ?d5 ?d6 ?d7 ?d8 ?d9 ?d10 ?d11 ?d12 ?d13 ?d14 ?d15 ?d16 ?d17 ?d18 ?d19 ?c0 ?c1 ?c2 ?c3 ?c4 ?c5 ?b0 ?b1 ?b2 ?b3 ?b4 ?b5 ?b6 ?b7 ?b8 ?b9 ?b10 ?b11 ?b12 ?b13
    (case d0 => refine' MP.defAt ?e1 ?e2 ?e3 ?e4; (case e1 => k_is); (case e2 => k_is); (case e3 => k_is); (case e4 => k_is))
    (case d1 => refine' MP.defAt ?e1 ?e2 ?e3 ?e4; (case e1 => k_is); (case e2 => k_is); (case e3 => k_is); (case e4 => k_is))
    (case d2 => refine' MP.defAt ?e1 ?e2 ?e3 ?e4; (case e1 => k_is); (case e2 => k_is); (case e3 => k_is); (case e4 => k_is))
    (case d3 => refine' MP.defAt ?e1 ?e2 ?e3 ?e4; (case e1 => k_is); (case e2 => k_is); (case e3 => k_is); (case e4 => k_is))
    (case d4 => refine' MP.defAt ?e1 ?e2 ?e3 ?e4; (case e1 => k_is); (case e2 => k_is); (case e3 => k_is); (case e4 => k_is))
    (case d5 => refine' MP.defAt ?e1 ?e2 ?e3 ?e4; (case e1 => k_is); (case e2 => k_is); (case e3 => k_is); (case e4 => k_is))
    (case d6 => refine' MP.defAt ?e1 ?e2 ?e3 ?e4; (case e1 => k_is); (case e2 => k_is); (case e3 => k_is); (case e4 => k_is))
    (case d7 => refine' MP.defAt ?e1 ?e2 ?e3 ?e4; (case e1 => k_is); (case e2 => k_is); (case e3 => k_is); (case e4 => k_is))
    (case d8 => refine' MP.defAt ?e1 ?e2 ?e3 ?e4; (case e1 => k_is); (case e2 => k_is); (case e3 => k_is); (case e4 => k_is))
    (case d9 => refine' MP.defAt ?e1 ?e2 ?e3 ?e4; (case e1 => k_is); (case e2 => k_is); (case e3 => k_is); (case e4 => k_is))
    (case d10 => refine' MP.defAt ?e1 ?e2 ?e3 ?e4; (case e1 => k_is); (case e2 => k_is); (case e3 => k_is); (case e4 => k_is))
    (case d11 => refine' MP.defAt ?e1 ?e2 ?e3 ?e4; (case e1 => k_is); (case e2 => k_is); (case e3 => k_is); (case e4 => k_is))
    (case d12 => refine' MP.defAt ?e1 ?e2 ?e3 ?e4; (case e1 => k_is); (case e2 => k_is); (case e3 => k_is); (case e4 => k_is))
    (case d13 => refine' MP.defAt ?e1 ?e2 ?e3 ?e4; (case e1 => k_is); (case e2 => k_is); (case e3 => k_is); (case e4 => k_is))
    (case d14 => refine' MP.defAt ?e1 ?e2 ?e3 ?e4; (case e1 => k_is); (case e2 => k_is); (case e3 => k_is); (case e4 => k_is))
    (case d15 => refine' MP.defAt ?e1 ?e2 ?e3 ?e4; (case e1 => k_is); (case e2 => k_is); (case e3 => k_is); (case e4 => k_is))
    (case d16 => refine' MP.defAt ?e1 ?e2 ?e3 ?e4; (case e1 => k_is); (case e2 => k_is); (case e3 => k_is); (case e4 => k_is))
    (case d17 => refine' MP.defAt ?e1 ?e2 ?e3 ?e4; (case e1 => k_is); (case e2 => k_is); (case e3 => k_is); (case e4 => k_is))
    (case d18 => refine' MP.defAt ?e1 ?e2 ?e3 ?e4; (case e1 => k_is); (case e2 => k_is); (case e3 => k_is); (case e4 => k_is))
    (case d19 => refine' MP.defAt ?e1 ?e2 ?e3 ?e4; (case e1 => k_is); (case e2 => k_is); (case e3 => k_is); (case e4 => k_is))
    (case c0 => refine' MP.cnInt ?e1; (case e1 => k_is))
    (case c1 => refine' MP.cnInt ?e1; (case e1 => k_is))
    (case c2 => refine' MP.cnInt ?e1; (case e1 => k_is))
    (case c3 => refine' MP.cnInt ?e1; (case e1 => k_is))
    (case c4 => refine' MP.cnInt ?e1; (case e1 => k_is))
    (case c5 => refine' MP.cnInt ?e1; (case e1 => k_is))
    (case b0 => k_is)
    (case b1 => k_is)
    (case b2 => k_is)
    (case b3 => k_is)
    (case b4 => k_is)
    (case b5 => k_is)
    (case b6 => k_is)
    (case b7 => k_is)
    (case b8 => k_is)
    (case b9 => k_is)
    (case b10 => k_is)
    (case b11 => k_is)
    (case b12 => k_is)
    (case b13 => k_is)
