import PyProof.Rows.All
import Wide.All
import OpenK.AllK
import Wide.FinOn
import HandS.ForMost
import HandS.IsInst
import HandS.TupAny
import HandS.TupMul
import HandS.TupLe
import HandS.Deep
import HandS.Gcd
import HandS.Lambda
import HandS.Nested
import HandS.EndTab
import KE.KTupSum
import KE.DataMinMax
import PyProof.ReprRoads
import HandS.ExcOwn
import HandS.Iter
import HandS.Walk
import HandS.Zip
import HandS.Rev
import KE.GoesMore
import KE.GoesEnum
import HandS.TryMany
import HandS.ExcField
import HandS.ExcInit
import HandS.HeadWalk
import HandS.HeadHook4
import KE.KStateDown
import HandS.Head0
import HandS.Head1
import HandS.Head2
import HandS.Head3
import HandS.HeadEnd
import HandS.HeadHook1
import HandS.HeadHook2
import PySem.Challenge.RW_toldquiet_k07_thicknesses_that_fit
set_option Elab.async false
set_option linter.all false
set_option maxRecDepth 100000
/-! Ev0: a small evaluator of the Python that the texts use: values, store, syntax by slots, its functions. -/
namespace Ev
open PySem

/-- a value: `lst` is a list that nobody changes any more, `scr` the script; `ref n` the n-th object of the store -/
inductive D where
  | non | bl (b : Bool) | int (i : Int) | str (x : Str) | tup (ds : List D) | lst (ds : List D) | scr (ds : List D) | ref (n : Nat)
/-- what an expression gives: a value, or a list that was just made -/
inductive X where
  | v (d : D) | n (ds : List D)
def X.d : X → D
  | .v d => d
  | .n ds => .lst ds
inductive Ob where
  | lst (ds : List D)
/-- the store; esc: the least object into which a value with references was written since the region began -/
structure St where
  objs : List Ob
  esc : Option Nat
inductive R (α : Type) where
  | ok (a : α) (s : St) | rs (c : Nat) (w : D) (s : St) | bad
def R.bind {α β : Type} (r : R α) (f : α → St → R β) : R β := match r with
  | .ok a s => f a s
  | .rs c w s => .rs c w s
  | .bad => .bad

/-! ### references in a value -/
mutual
/-- all references lie below n -/
def D.lo (n : Nat) : D → Bool
  | .tup ds => D.loL n ds
  | .lst ds => D.loL n ds
  | .scr ds => D.loL n ds
  | .ref k => decide (k < n)
  | .non => true | .bl _ => true | .int _ => true | .str _ => true
def D.loL (n : Nat) : List D → Bool
  | [] => true
  | d :: ds => D.lo n d && D.loL n ds
end
/-- no references -/
abbrev D.nr (d : D) : Bool := D.lo 0 d
abbrev D.nrL (ds : List D) : Bool := D.loL 0 ds
mutual
def D.eqb : D → D → Bool
  | .non, .non => true
  | .bl a, .bl b => a == b
  | .int a, .int b => a == b
  | .str a, .str b => a == b
  | .tup a, .tup b => D.eqbL a b
  | .lst a, .lst b => D.eqbL a b
  | .ref a, .ref b => a == b
  | _, _ => false
def D.eqbL : List D → List D → Bool
  | [], [] => true
  | a :: as, b :: bs => D.eqb a b && D.eqbL as bs
  | _, _ => false
end
/-- the value without references, as the library's data: fuel for the nesting -/
def D.toP (objs : List Ob) : Nat → D → Option PyData
  | _, .non => some .none
  | _, .bl b => some (.bool b)
  | _, .int i => some (.int i)
  | _, .str x => some (.str x)
  | f + 1, .tup ds => (ds.mapM (D.toP objs f)).map .tuple
  | f + 1, .lst ds => (ds.mapM (D.toP objs f)).map .list
  | f + 1, .ref n => match objs[n]? with
    | some (.lst ds) => (ds.mapM (D.toP objs f)).map .list
    | none => none
  | 0, .tup _ => none
  | 0, .lst _ => none
  | 0, .ref _ => none
  | _, .scr _ => none
/-- the value with the objects from n on written out; b must not be met -/
def D.res (objs : List Ob) (n b : Nat) : Nat → D → Option D
  | _, .non => some .non
  | _, .bl b => some (.bl b)
  | _, .int i => some (.int i)
  | _, .str x => some (.str x)
  | f, .tup ds => if D.loL n ds then some (.tup ds) else match f with
    | f + 1 => (ds.mapM (D.res objs n b f)).map .tup
    | 0 => none
  | f, .lst ds => if D.loL n ds then some (.lst ds) else match f with
    | f + 1 => (ds.mapM (D.res objs n b f)).map .lst
    | 0 => none
  | _, .scr ds => if D.loL n ds then some (.scr ds) else none
  | f, .ref k => if k < n then some (.ref k) else match f with
    | f + 1 => if k = b then none else match objs[k]? with
      | some (.lst ds) => (ds.mapM (D.res objs n b f)).map .lst
      | _ => none
    | 0 => none
/-- how deep a value may nest where a call ends -/
def deepN : Nat := 8
def X.res (objs : List Ob) (n : Nat) : X → Option X
  | .n ds => if D.loL n ds then some (.n ds) else (ds.mapM (D.res objs n objs.length deepN)).map .n
  | .v (.ref k) => if k < n then some (.v (.ref k)) else match objs[k]? with
    | some (.lst ds) => if D.loL n ds then some (.n ds) else (ds.mapM (D.res objs n k deepN)).map .n
    | _ => none
  | .v d => if D.lo n d then some (.v d) else (D.res objs n objs.length deepN d).map .v
/-! ### the store -/
def escMin : Option Nat → Option Nat → Option Nat
  | none, b => b
  | a, none => a
  | some a, some b => some (min a b)
def escOk (n : Nat) : Option Nat → Bool
  | none => true
  | some k => decide (n ≤ k)
/-- d is written into the object k -/
def escW (k : Nat) (d : D) (e : Option Nat) : Option Nat := if D.nr d then e else escMin e (some k)
def St.enter (s : St) : St := ⟨s.objs, none⟩
/-- a region that began at s0 ends at s1 with x: what was made in it goes, if nothing holds on to it -/
def leaveX (kp : Bool) (s0 : St) (x : X) (s1 : St) : R X :=
  if !kp && escOk s0.objs.length s1.esc then match X.res s1.objs s0.objs.length x with
    | some y => .ok y ⟨s1.objs.take s0.objs.length, s0.esc⟩
    | none => .ok x ⟨s1.objs, escMin s0.esc s1.esc⟩
  else .ok x ⟨s1.objs, escMin s0.esc s1.esc⟩
def leaveR (s0 : St) (c : Nat) (w : D) (s1 : St) : R X :=
  if escOk s0.objs.length s1.esc && D.lo s0.objs.length w then .rs c w ⟨s1.objs.take s0.objs.length, s0.esc⟩
  else .rs c w ⟨s1.objs, escMin s0.esc s1.esc⟩
/-! ### sequences, truth, operators -/
def seqOf (objs : List Ob) : D → Option (List D)
  | .tup ds => some ds
  | .lst ds => some ds
  | .scr ds => some ds
  | .ref n => match objs[n]? with
    | some (.lst ds) => some ds
    | none => none
  | _ => none
def lstOf (objs : List Ob) : D → Option (List D)
  | .lst ds => some ds
  | .ref n => match objs[n]? with
    | some (.lst ds) => some ds
    | none => none
  | _ => none
def truth (objs : List Ob) : D → Option Bool
  | .non => some false
  | .bl b => some b
  | .int i => some (i != 0)
  | .str x => if x.length ≤ sizeLine then some ((x.length : Int) != 0) else none
  | .tup ds => some (!ds.isEmpty)
  | .lst ds => some (!ds.isEmpty)
  | .scr ds => some (!ds.isEmpty)
  | .ref n => match objs[n]? with
    | some (.lst ds) => some (!ds.isEmpty)
    | none => none
def sm (i : Int) : Bool := decide (-(2 ^ 64) < i) && decide (i < 2 ^ 64)
def intL : List D → Option (List Int)
  | [] => some []
  | .int i :: ds => (intL ds).map (i :: ·)
  | _ :: _ => none
def boolL : List D → Option (List Bool)
  | [] => some []
  | .bl b :: ds => (boolL ds).map (b :: ·)
  | _ :: _ => none
inductive Bop where
  | add | sub | mul | fdiv | mod | pow
def repL (k : Int) (ds : List D) : List D := (List.replicate k.toNat ds).flatten
def addD (objs : List Ob) (x y : D) : Option X := match x, y with
  | .int i, .int j => some (.v (.int (i + j)))
  | .tup a, .tup b => if a.length + b.length ≤ sizeLine then some (.v (.tup (a ++ b))) else none
  | .str a, .str b => if a.length + b.length ≤ sizeLine then some (.v (.str (a ++ b))) else none
  | .lst a, .lst b => if a.length + b.length ≤ sizeLine then some (.n (a ++ b)) else none
  | .lst a, .ref n => match objs[n]? with
    | some (.lst b) => if a.length + b.length ≤ sizeLine then some (.n (a ++ b)) else none
    | none => none
  | .ref m, .lst b => match objs[m]? with
    | some (.lst a) => if a.length + b.length ≤ sizeLine then some (.n (a ++ b)) else none
    | none => none
  | .ref m, .ref n => match objs[m]?, objs[n]? with
    | some (.lst a), some (.lst b) => if a.length + b.length ≤ sizeLine then some (.n (a ++ b)) else none
    | _, _ => none
  | _, _ => none
def repK (a : List D) (k : Int) : Bool := decide (k < 2 ^ 62) && decide (-(2 ^ 62) < k) && decide (a.length * k.toNat ≤ sizeLine)
def mulD (objs : List Ob) (x y : D) : Option X := match x, y with
  | .int i, .int j => if sm i || sm j then some (.v (.int (i * j))) else none
  | .tup a, .int k => if repK a k then some (.v (.tup (repL k a))) else none
  | .lst a, .int k => if repK a k then some (.n (repL k a)) else none
  | .ref n, .int k => match objs[n]? with
    | some (.lst a) => if repK a k then some (.n (repL k a)) else none
    | none => none
  | _, _ => none
def intD (f : Int → Int → Option Int) (x y : D) : Option X := match x, y with
  | .int i, .int j => (f i j).map fun k => .v (.int k)
  | _, _ => none
def binop (objs : List Ob) (o : Bop) (x y : D) : Option X := match o with
  | .add => addD objs x y
  | .sub => intD (fun i j => some (i - j)) x y
  | .mul => mulD objs x y
  | .fdiv => intD (fun i j => if decide (0 < j) && decide (j < 1073741824) then some (i / j) else none) x y
  | .mod => intD (fun i j => if 0 < j then some (i % j) else none) x y
  | .pow => intD (fun i j => if decide (0 ≤ j) && decide (j ≤ 1000) && sm i then some (i ^ j.toNat) else none) x y
inductive Cop where
  | eq | ne | lt | le | gt | ge | is | isn | inn | nin
def fuelP : Nat := 12
/-- == of two values as data -/
def eqdG (objs : List Ob) (x y : D) : Option Bool := match D.toP objs fuelP x, D.toP objs fuelP y with
  | some p, some q => if SeqAt.shaped p && SeqAt.shaped q then some (PyData.eqv p q) else none
  | _, _ => none
def eqd (objs : List Ob) (x y : D) : Option Bool := match x, y with
  | .str a, .str b => some (a == b)
  | _, _ => eqdG objs x y
def scal : D → Bool
  | .non => true | .bl _ => true | .int _ => true | .str _ => true | _ => false
def isOp : D → D → Option Bool
  | x, .non => some (match x with | .non => true | _ => false)
  | .bl a, .bl b => some (a == b)
  | _, _ => none
/-- == of values without parts -/
def eqS : D → D → Bool
  | .non, .non => true
  | .bl a, .bl b => a == b
  | .bl a, .int b => (if a then 1 else 0) == b
  | .int a, .bl b => a == (if b then 1 else 0)
  | .int a, .int b => a == b
  | .str a, .str b => a == b
  | _, _ => false
/-- x in y -/
def inOp (objs : List Ob) (x y : D) : Option Bool := match seqOf objs y with
  | some ds => if scal x && ds.all scal then some (ds.any fun d => eqS d x) else match D.toP objs fuelP x, D.toP objs fuelP y with
    | some p, some (.list qs) => if SeqAt.shaped p && SeqAt.shaped (.list qs) then some (qs.any fun z => PyData.eqv z p) else none
    | _, _ => none
  | none => none
def ltOp (x y : D) : Option Bool := match x, y with
  | .int i, .int j => some (decide (i < j))
  | .tup a, .tup b => match intL a, intL b with
    | some is, some js => some (HT.lexLt is js)
    | _, _ => none
  | _, _ => none
def ordI (f : Int → Int → Bool) (x y : D) : Option Bool := match x, y with
  | .int i, .int j => some (f i j)
  | _, _ => none
def cmp (objs : List Ob) (o : Cop) (x y : D) : Option Bool := match o with
  | .eq => eqd objs x y
  | .ne => (eqd objs x y).map (!·)
  | .lt => ltOp x y
  | .le => ordI (fun i j => decide (i ≤ j)) x y
  | .gt => ordI (fun i j => decide (j < i)) x y
  | .ge => ordI (fun i j => decide (j ≤ i)) x y
  | .is => isOp x y
  | .isn => (isOp x y).map (!·)
  | .inn => inOp objs x y
  | .nin => (inOp objs x y).map (!·)
/-- an index of either sign -/
abbrev ixN := L2.ixN
abbrev atI {α : Type} := @L2.atI α
def idx (objs : List Ob) (x i : D) : Option D := match i with
  | .int k => match seqOf objs x with
    | some ds => atI ds k
    | none => none
  | _ => none
/-- a bound of a slice, within 0 .. n -/
abbrev sIx := HT.sIx
def cut {α : Type} (xs : List α) (lo hi : Option Int) : List α := (xs.drop (sIx xs.length 0 lo)).take (sIx xs.length xs.length hi - sIx xs.length 0 lo)
def slice (objs : List Ob) (x : D) (l h : Option Int) : Option X := match x with
  | .tup ds => some (.v (.tup (cut ds l h)))
  | .scr ds => some (.n (cut ds l h))
  | _ => match lstOf objs x with
    | some ds => some (.n (cut ds l h))
    | none => none
def rev (objs : List Ob) (x : D) : Option X := match x with
  | .tup ds => some (.v (.tup ds.reverse))
  | _ => match lstOf objs x with
    | some ds => some (.n ds.reverse)
    | none => none
/-! ### built-in functions -/
inductive Bi where
  | len | int | repr | isI | isB | isT | isL | max1 | max2 | min1 | min2 | sum | list | tuple | gcd | all | any | abs
def maxL (m : Int) (l : List Int) : Int := l.foldl max m
def minL (m : Int) (l : List Int) : Int := l.foldl min m
def bi (objs : List Ob) (b : Bi) (ds : List D) : Option X := match b with
  | .len => match ds with
    | [.str x] => if x.length ≤ sizeLine then some (.v (.int x.length)) else none
    | [x] => (seqOf objs x).map fun ds => .v (.int ds.length)
    | _ => none
  | .int => match ds with
    | [.int i] => some (.v (.int i))
    | [.bl b] => some (.v (.int (if b then 1 else 0)))
    | _ => none
  | .repr => match ds with
    | [x] => match D.toP objs fuelP x with
      | some p => if !scal x && p.showable && decide (p.shown.length ≤ sizeLine) && decide (p.depth ≤ 64) then some (.v (.str p.shown)) else none
      | none => none
    | _ => none
  | .isI => match ds with
    | [x] => some (.v (.bl (match x with | .int _ => true | .bl _ => true | _ => false)))
    | _ => none
  | .isB => match ds with
    | [x] => some (.v (.bl (match x with | .bl _ => true | _ => false)))
    | _ => none
  | .isT => match ds with
    | [x] => some (.v (.bl (match x with | .tup _ => true | _ => false)))
    | _ => none
  | .isL => match ds with
    | [x] => some (.v (.bl (match x with | .lst _ => true | .ref _ => true | .scr _ => true | _ => false)))
    | _ => none
  | .max1 => match ds with
    | [x] => match seqOf objs x with
      | some ds => match intL ds with
        | some (i :: is) => some (.v (.int (maxL i is)))
        | _ => none
      | none => none
    | _ => none
  | .min1 => match ds with
    | [x] => match seqOf objs x with
      | some ds => match intL ds with
        | some (i :: is) => some (.v (.int (minL i is)))
        | _ => none
      | none => none
    | _ => none
  | .max2 => match ds with
    | [.int i, .int j] => some (.v (.int (max i j)))
    | _ => none
  | .min2 => match ds with
    | [.int i, .int j] => some (.v (.int (min i j)))
    | _ => none
  | .sum => match ds with
    | [x] => match seqOf objs x with
      | some ds => (intL ds).map fun is => .v (.int is.sum)
      | none => none
    | _ => none
  | .list => match ds with
    | [x] => (seqOf objs x).map .n
    | _ => none
  | .tuple => match ds with
    | [x] => (seqOf objs x).map fun ds => .v (.tup ds)
    | _ => none
  | .gcd => match ds with
    | [.int i, .int j] => some (.v (.int (Nat.gcd i.natAbs j.natAbs)))
    | _ => none
  | .all => match ds with
    | [x] => match lstOf objs x with
      | some ds => (boolL ds).map fun bs => .v (.bl (bs.all id))
      | none => none
    | _ => none
  | .any => match ds with
    | [x] => match lstOf objs x with
      | some ds => (boolL ds).map fun bs => .v (.bl (bs.any id))
      | none => none
    | _ => none
  | .abs => match ds with
    | [.int i] => some (.v (.int (if i < 0 then -i else i)))
    | _ => none
/-! ### methods -/
inductive Mt where
  | append | extend | pop | popi
def setO (s : St) (n : Nat) (o : Ob) (e : Option Nat) : St := ⟨s.objs.set n o, e⟩
/-- a method of the n-th object -/
def mt (s : St) (m : Mt) (n : Nat) (as : List D) : R X := match s.objs[n]? with
  | some (.lst ds) => match m with
    | .append => match as with
      | [d] => if ds.length < sizeLine then .ok (.v .non) (setO s n (.lst (ds ++ [d])) (escW n d s.esc)) else .bad
      | _ => .bad
    | .extend => match as with
      | [x] => match lstOf s.objs x with
        | some es => if ds.length + es.length ≤ sizeLine then .ok (.v .non) (setO s n (.lst (ds ++ es)) (escW n (.tup es) s.esc)) else .bad
        | none => .bad
      | _ => .bad
    | .pop => match as with
      | [] => match ds[ds.length - 1]? with
        | some d => .ok (.v d) (setO s n (.lst ds.dropLast) s.esc)
        | none => .bad
      | _ => .bad
    | .popi => match as with
      | [.int i] => match ixN ds.length i with
        | some k => match ds[k]? with
          | some d => .ok (.v d) (setO s n (.lst (ds.eraseIdx k)) s.esc)
          | none => .bad
        | none => .bad
      | _ => .bad
  | none => .bad
/-! ### syntax -/
/-- targets -/
inductive G where
  | nm (i : Nat) | tup (g : G) (r : G) | nil
/-- what is walked -/
inductive Qk where
  | e | rng1 | rng2 | enm | zip | rv
mutual
inductive T where
  | loc (i : Nat)
  | cst (d : D)
  | bin (o : Bop) (a b : T)
  | neg (a : T)
  | not (a : T)
  | cmp (o : Cop) (a b : T)
  | chn (o p : Cop) (a b c : T)
  | and (a b : T)
  | or (a b : T)
  | ite (c a b : T)
  | tup (es : TL)
  | lst (es : TL)
  | box (a : T)
  | idx (a i : T)
  | sl (a lo hi : T)
  | no
  | rev (a : T)
  | call (f : Nat) (es : TL)
  | callv (i : Nat) (es : TL)
  | fn (f : Nat)
  | lam (l : Nat) (cap : List Nat)
  | bc (b : Bi) (es : TL)
  | mt (m : Mt) (o : T) (es : TL)
  | lrng (es : TL)
  | trng (es : TL)
  | lc (own : List Nat) (g : G) (q : Qk) (es : TL) (cs : TL) (el : T)
inductive TL where
  | nil
  | cons (e : T) (r : TL)
end
inductive S where
  | ex (e : T)
  | asg (g : G) (e : T)
  | setI (o i e : T)
  | setSl (o lo hi e : T)
  | aug (i : Nat) (o : Bop) (e : T)
  | ret (e : T)
  | retN
  | ife (c : T) (a b : S)
  | fr (g : G) (q : Qk) (es : TL) (b : S)
  | wh (c : T) (b : S)
  | brk | cnt | skip
  | rais (c : Nat) (e : T)
  | tri (b : S) (hs : List (Nat × Str))
  | seq (a b : S)
  | scope (kill : List Nat) (b : S)
/-- what a slot holds -/
inductive Sl where
  | no | val (d : D) | fn (f : Nat) | lam (l : Nat) (env : List Sl)
abbrev Env := List Sl
inductive Cal where
  | fn (f : Nat) | lam (l : Nat) (env : List Sl)
abbrev Call := Cal → List Sl → St → R X
def Sl.lo (n : Nat) : Sl → Bool
  | .no => true
  | .val d => D.lo n d
  | .fn _ => true
  | .lam _ _ => false
/-- what a lambda keeps of a name around -/
def Sl.keep : Option Sl → Sl
  | some (.val d) => .val d
  | some (.fn f) => .fn f
  | _ => .no
def capt (env : Env) (cap : List Nat) : List Sl := cap.map fun j => Sl.keep env[j]?
/-! ### evaluation -/
def ofO {α : Type} (s : St) : Option α → R α
  | some a => .ok a s
  | none => .bad
def rngL (a b : Int) : List D := (List.range (b - a).toNat).map fun (i : Nat) => .int (a + (i : Int))
def rng? (ds : List D) : Option (List D) := match ds with
  | [.int b] => if decide (-(2 ^ 62) ≤ b) && decide (b < 2 ^ 62) then some (rngL 0 b) else none
  | [.int a, .int b] => if decide (-(2 ^ 62) ≤ a) && decide (a < 2 ^ 62) && decide (-(2 ^ 62) ≤ b) && decide (b < 2 ^ 62) then some (rngL a b) else none
  | _ => none
/-- the items, and what must stand still meanwhile -/
def items (objs : List Ob) (q : Qk) (ds : List D) : Option (List D) := match q, ds with
  | .e, [x] => seqOf objs x
  | .rng1, [x] => rng? [x]
  | .rng2, [x, y] => rng? [x, y]
  | .enm, [x] => (seqOf objs x).map fun es => es.zipIdx.map fun p => .tup [.int p.2, p.1]
  | .zip, [x, y] => match seqOf objs x, seqOf objs y with
    | some es, some fs => some ((es.zip fs).map fun p => .tup [p.1, p.2])
    | _, _ => none
  | .rv, [x] => (seqOf objs x).map List.reverse
  | _, _ => none
/-- the objects that are walked stand as they stood -/
def still1 (o0 o1 : List Ob) : D → Bool
  | .ref n => match o0[n]?, o1[n]? with
    | some (.lst a), some (.lst b) => D.eqbL a b
    | _, _ => false
  | _ => true
def still (o0 o1 : List Ob) (ds : List D) : Bool := ds.all (still1 o0 o1)
mutual
/-- a value into a target: a name | the items of a tuple -/
def asg : G → D → Env → Option Env
  | .nm i, d, env => if i < env.length then some (env.set i (.val d)) else none
  | .tup g r, d, env => match d with
    | .tup (d :: ds) => match asg g d env with
      | some env' => asgL r ds env'
      | none => none
    | _ => none
  | .nil, _, _ => none
def asgL : G → List D → Env → Option Env
  | .nil, ds, env => match ds with
    | [] => some env
    | _ => none
  | .tup g r, ds, env => match ds with
    | d :: ds => match asg g d env with
      | some env' => asgL r ds env'
      | none => none
    | _ => none
  | .nm _, _, _ => none
end
def wipe (env : Env) : List Nat → Env
  | [] => env
  | i :: is => (wipe env is).set i .no
/-- a comprehension's turns: its list is the n-th object -/
def lcL (n : Nat) (st : St → Bool) (f : D → St → R (Option D)) : List D → St → R Unit
  | [], s => if st s then .ok () s else .bad
  | d :: ds, s => if st s then match f d s with
      | .ok (some e) s' => match s'.objs[n]? with
        | some (.lst acc) => if acc.length < sizeLine then lcL n st f ds (setO s' n (.lst (acc ++ [e])) (escW n e s'.esc)) else .bad
        | none => .bad
      | .ok none s' => lcL n st f ds s'
      | .rs _ _ _ => .bad
      | .bad => .bad
    else .bad
/-- its end: the list is let go of, where it is the last object -/
def lcE (s0 s : St) : R X := match s.objs[s0.objs.length]? with
  | some (.lst out) => if s.objs.length == s0.objs.length + 1 && escOk s0.objs.length s.esc && D.loL s0.objs.length out then .ok (.n out) ⟨s.objs.take s0.objs.length, s0.esc⟩ else .ok (.v (.ref s0.objs.length)) ⟨s.objs, escMin s0.esc s.esc⟩
  | none => .bad
/-- a comprehension's turn: a test, a value -/
def lcB (t : Env → St → R Bool) (e : Env → St → R X) (g : G) (env : Env) (d : D) (s : St) : R (Option D) := match asg g d env with
  | some env' => (t env' s).bind fun b s => if b then (e env' s).bind fun x s => .ok (some x.d) s else .ok none s
  | none => .bad
/-- no closures -/
def noL (env : Env) : Env := env.map fun w => match w with
  | .lam _ _ => .no
  | w => w
def asInt (d : D) (s : St) : R (Option Int) := match d with
  | .int i => .ok (some i) s
  | _ => .bad
/-- a part of a slice -/
def part (t : T) (r : R X) (s : St) : R (Option Int) := match t with
  | .no => .ok none s
  | _ => r.bind fun x s => asInt x.d s
mutual
def ev (cl : Call) : T → Env → St → R X
  | .loc i, env, s => match env[i]? with
    | some (.val d) => .ok (.v d) s
    | _ => .bad
  | .cst d, _, s => .ok (.v d) s
  | .bin o a b, env, s => (ev cl a env s).bind fun x s => (ev cl b env s).bind fun y s => ofO s (binop s.objs o x.d y.d)
  | .neg a, env, s => (ev cl a env s).bind fun x s => match x.d with
    | .int i => .ok (.v (.int (-i))) s
    | _ => .bad
  | .not a, env, s => (ev cl a env s).bind fun x s => ofO s ((truth s.objs x.d).map fun b => .v (.bl !b))
  | .cmp o a b, env, s => (ev cl a env s).bind fun x s => (ev cl b env s).bind fun y s => ofO s ((cmp s.objs o x.d y.d).map fun b => .v (.bl b))
  | .chn o p a b c, env, s => (ev cl a env s).bind fun x s => (ev cl b env s).bind fun y s => match cmp s.objs o x.d y.d with
    | some true => (ev cl c env s).bind fun z s => ofO s ((cmp s.objs p y.d z.d).map fun b => .v (.bl b))
    | some false => .ok (.v (.bl false)) s
    | none => .bad
  | .and a b, env, s => (ev cl a env s).bind fun x s => match truth s.objs x.d with
    | some true => ev cl b env s
    | some false => .ok x s
    | none => .bad
  | .or a b, env, s => (ev cl a env s).bind fun x s => match truth s.objs x.d with
    | some true => .ok x s
    | some false => ev cl b env s
    | none => .bad
  | .ite c a b, env, s => (ev cl c env s).bind fun x s => match truth s.objs x.d with
    | some true => ev cl a env s
    | some false => ev cl b env s
    | none => .bad
  | .tup es, env, s => (evs cl es env s).bind fun ds s => .ok (.v (.tup ds)) s
  | .lst es, env, s => (evs cl es env s).bind fun ds s => .ok (.n ds) s
  | .box a, env, s => (ev cl a env s).bind fun x s => match x with
    | .n ds => .ok (.v (.ref s.objs.length)) ⟨s.objs ++ [.lst ds], s.esc⟩
    | .v (.ref k) => .ok (.v (.ref k)) s
    | _ => .bad
  | .idx a i, env, s => (ev cl a env s).bind fun x s => (ev cl i env s).bind fun y s => ofO s ((idx s.objs x.d y.d).map .v)
  | .sl a lo hi, env, s => (ev cl a env s).bind fun x s => (part lo (ev cl lo env s) s).bind fun l s => (part hi (ev cl hi env s) s).bind fun h s => ofO s (slice s.objs x.d l h)
  | .no, _, _ => .bad
  | .rev a, env, s => (ev cl a env s).bind fun x s => ofO s (rev s.objs x.d)
  | .call f es, env, s => (eva cl es env s).bind fun as s => cl (.fn f) as s
  | .callv i es, env, s => match env[i]? with
    | some (.fn f) => (eva cl es env s).bind fun as s => cl (.fn f) as s
    | some (.lam l e) => (eva cl es env s).bind fun as s => cl (.lam l e) as s
    | _ => .bad
  | .fn _, _, _ => .bad
  | .lam _ _, _, _ => .bad
  | .bc b es, env, s => (evs cl es env s).bind fun ds s => ofO s (bi s.objs b ds)
  | .mt m o es, env, s => (ev cl o env s).bind fun x s => match x.d with
    | .ref n => (evs cl es env s).bind fun ds s => mt s m n ds
    | _ => .bad
  | .lrng es, env, s => (evs cl es env s).bind fun ds s => ofO s ((rng? ds).bind fun is => if is.length ≤ sizeLine then some (.n is) else none)
  | .trng es, env, s => (evs cl es env s).bind fun ds s => ofO s ((rng? ds).bind fun is => if is.length ≤ sizeLine then some (.v (.tup is)) else none)
  | .lc own g q es cs el, env, s => (evs cl es env s).bind fun ds s => match items s.objs q ds with
    | some is => (lcL s.objs.length (fun s' => still s.objs s'.objs ds) (lcB (evc cl cs) (ev cl el) g (noL (wipe env own))) is ⟨s.objs ++ [.lst []], none⟩).bind fun _ s' => lcE s s'
    | none => .bad
def evs (cl : Call) : TL → Env → St → R (List D)
  | .nil, _, s => .ok [] s
  | .cons e r, env, s => (ev cl e env s).bind fun x s => (evs cl r env s).bind fun ds s => .ok (x.d :: ds) s
/-- arguments of a def: functions too -/
def eva (cl : Call) : TL → Env → St → R (List Sl)
  | .nil, _, s => .ok [] s
  | .cons (.fn f) r, env, s => (eva cl r env s).bind fun as s => .ok (.fn f :: as) s
  | .cons (.lam l cap) r, env, s => (eva cl r env s).bind fun as s => .ok (.lam l (capt env cap) :: as) s
  | .cons (.loc i) r, env, s => match env[i]? with
    | some (.val d) => (eva cl r env s).bind fun as s => .ok (.val d :: as) s
    | some (.fn f) => (eva cl r env s).bind fun as s => .ok (.fn f :: as) s
    | some (.lam l e) => (eva cl r env s).bind fun as s => .ok (.lam l e :: as) s
    | _ => .bad
  | .cons e r, env, s => (ev cl e env s).bind fun x s => (eva cl r env s).bind fun as s => .ok (.val x.d :: as) s
/-- all tests of a comprehension -/
def evc (cl : Call) : TL → Env → St → R Bool
  | .nil, _, s => .ok true s
  | .cons e r, env, s => (ev cl e env s).bind fun x s => match truth s.objs x.d with
    | some true => evc cl r env s
    | some false => .ok false s
    | none => .bad
end
/-- a part of a slice -/
def evo (cl : Call) (t : T) (env : Env) (s : St) : R (Option Int) := part t (ev cl t env s) s
/-- a test -/
def evt (cl : Call) (c : T) (env : Env) (s : St) : R Bool := (ev cl c env s).bind fun x s => ofO s (truth s.objs x.d)
/-- how a statement ends -/
inductive O where
  | nx (env : Env) (s : St) | br (env : Env) (s : St) | ct (env : Env) (s : St) | rt (x : X) (s : St) | rs (c : Nat) (w : D) (env : Env) (s : St) | bad
def R.to {α : Type} (r : R α) (env : Env) (f : α → St → O) : O := match r with
  | .ok a s => f a s
  | .rs c w s => .rs c w env s
  | .bad => .bad
def ofE (s : St) : Option Env → O
  | some e => .nx e s
  | none => .bad
/-- a for's turns -/
def frL (st : St → Bool) (f : D → Env → St → O) : List D → Env → St → O
  | [], env, s => if st s then .nx env s else .bad
  | d :: ds, env, s => if st s then match f d env s with
      | .nx env' s' => frL st f ds env' s'
      | .ct env' s' => frL st f ds env' s'
      | .br env' s' => .nx env' s'
      | .rt x s' => .rt x s'
      | .rs c w env' s' => .rs c w env' s'
      | .bad => .bad
    else .bad
/-- a while's turns -/
def whL (c : Env → St → R Bool) (f : Env → St → O) : Nat → Env → St → O
  | 0, _, _ => .bad
  | n + 1, env, s => (c env s).to env fun b s => if b then match f env s with
      | .nx env' s' => whL c f n env' s'
      | .ct env' s' => whL c f n env' s'
      | .br env' s' => .nx env' s'
      | .rt x s' => .rt x s'
      | .rs c w env' s' => .rs c w env' s'
      | .bad => .bad
    else .nx env s
def bigN : Nat := 1000000000
/-- behind a region of statements: the slots in kill are forgotten, what was made goes if nothing holds on to it -/
def leaveS (s0 : St) (env : Env) (s1 : St) (k : Env → St → O) : O :=
  if escOk s0.objs.length s1.esc && env.all (Sl.lo s0.objs.length) then k env ⟨s1.objs.take s0.objs.length, s0.esc⟩ else k env ⟨s1.objs, escMin s0.esc s1.esc⟩
def lookC : List (Nat × Str) → Nat → Option Str
  | [], _ => none
  | (c, x) :: r, d => if c = d then some x else lookC r d
def ofR (env : Env) (r : R X) (k : X → St → O) : O := r.to env k
/-- a loop's turn -/
def frB (k : Env → St → O) (g : G) (d : D) (env : Env) (s : St) : O := match asg g d env with
  | some env' => k env' s
  | none => .bad
def augI (f : Int → Int → Int) (a : Int) (d : D) : Option Int := match d with
  | .int b => some (f a b)
  | _ => none
/-- a op= d -/
def augD (o : Bop) : Int → D → Option Int := match o with
  | .add => augI fun a b => a + b
  | .sub => augI fun a b => a - b
  | _ => fun _ _ => none
def exS (cl : Call) : S → Env → St → O
  | .ex e, env, s => (ev cl e env s).to env fun _ s => .nx env s
  | .asg g e, env, s => (ev cl e env s).to env fun x s => ofE s (asg g x.d env)
  | .setI o i e, env, s => (ev cl e env s).to env fun x s => (ev cl o env s).to env fun y s => (ev cl i env s).to env fun z s => match y.d, z.d with
      | .ref n, .int k => match s.objs[n]? with
        | some (.lst ds) => match ixN ds.length k with
          | some j => .nx env (setO s n (.lst (ds.set j x.d)) (escW n x.d s.esc))
          | none => .bad
        | none => .bad
      | _, _ => .bad
  | .setSl o lo hi e, env, s => (ev cl e env s).to env fun x s => (ev cl o env s).to env fun y s => (evo cl lo env s).to env fun l s => (evo cl hi env s).to env fun h s => match y.d, seqOf s.objs x.d with
      | .ref n, some es => match s.objs[n]? with
        | some (.lst ds) =>
          let a := sIx ds.length 0 l
          let b := sIx ds.length ds.length h
          if decide (a ≤ b) && decide (ds.length + es.length ≤ sizeLine) then .nx env (setO s n (.lst (ds.take a ++ es ++ ds.drop b)) (escW n (.tup es) s.esc)) else .bad
        | none => .bad
      | _, _ => .bad
  | .aug i o e, env, s => match env[i]? with
    | some (.val (.int a)) => (ev cl e env s).to env fun x s => match augD o a x.d with
      | some k => .nx (env.set i (.val (.int k))) s
      | none => .bad
    | _ => .bad
  | .ret e, env, s => (ev cl e env s).to env fun x s => .rt x s
  | .retN, _, s => .rt (.v .non) s
  | .ife c a b, env, s => (evt cl c env s).to env fun t s => if t then exS cl a env s else exS cl b env s
  | .fr g q es b, env, s => (evs cl es env s).to env fun ds s => match items s.objs q ds with
    | some is => frL (fun s' => still s.objs s'.objs ds) (frB (exS cl b) g) is env s
    | none => .bad
  | .wh c b, env, s => whL (evt cl c) (exS cl b) bigN env s
  | .brk, env, s => .br env s
  | .cnt, env, s => .ct env s
  | .skip, env, s => .nx env s
  | .rais c e, env, s => (ev cl e env s).to env fun x s => .rs c x.d env s
  | .tri b hs, env, s => match exS cl b env s with
    | .rs c w env' s' => match lookC hs c with
      | some x => .rt (.v (.tup [.str x, w])) s'
      | none => .rs c w env' s'
    | o => o
  | .seq a b, env, s => match exS cl a env s with
    | .nx env' s' => exS cl b env' s'
    | o => o
  | .scope kill b, env, s => match exS cl b env s.enter with
    | .nx env' s' => leaveS s (wipe env' kill) s' .nx
    | .ct env' s' => leaveS s (wipe env' kill) s' .ct
    | .br env' s' => leaveS s (wipe env' kill) s' .br
    | .rt x s' => .rt x ⟨s'.objs, escMin s.esc s'.esc⟩
    | .rs c w env' s' => .rs c w env' ⟨s'.objs, escMin s.esc s'.esc⟩
    | .bad => .bad
/-! ### defs -/
structure Fn where
  /-- the number of parameters (the first slots), of slots; whether what it made stays -/
  ps : Nat
  n : Nat
  body : S
  kp : Bool := false
structure Lam where
  /-- the number of parameters (the first slots; behind them the names that are kept), of slots -/
  ps : Nat
  n : Nat
  body : T
structure Prog where
  fns : List Fn
  lams : List Lam
/-- a call: at most n calls one in another -/
def callF (P : Prog) : Nat → Call
  | 0, _, _, _ => .bad
  | n + 1, .fn f, as, s => match P.fns[f]? with
    | some fn => if as.length = fn.ps then match exS (callF P n) fn.body (as ++ List.replicate (fn.n - fn.ps) .no) s.enter with
        | .nx _ s' => leaveX fn.kp s (.v .non) s'
        | .rt x s' => leaveX fn.kp s x s'
        | .rs c w _ s' => leaveR s c w s'
        | _ => .bad
      else .bad
    | none => .bad
  | n + 1, .lam l ws, as, s => match P.lams[l]? with
    | some lm => if as.length = lm.ps then match ev (callF P n) lm.body (as ++ (ws ++ List.replicate (lm.n - as.length - ws.length) .no)) s.enter with
        | .ok x s' => leaveX false s x s'
        | .rs c w s' => leaveR s c w s'
        | .bad => .bad
      else .bad
    | none => .bad
end Ev

set_option Elab.async false
set_option linter.all false
set_option maxRecDepth 100000
/-! Ev1: how values, stores and names lie in the abstract heap -/
namespace Ev
open PySem L2

/-- the script: a list that is known to the object, or to the program -/
def ScrAt (K : PySem.W.Frag) (H : Hp) (a : Addr) (xs : List V) : Prop :=
  (∃ o, H a = some (.frz o (.lst xs))) ∨ ∃ (o : Obj) (its : Array Value) (n : Nat), K.lookup a = some o ∧ o.cls = .type "list" ∧ o.dict = none ∧ o.data = .seq its n ∧ its.size ≤ sizeLine ∧ Vals xs its.toList
theorem ScrAt.sq {K : PySem.W.Frag} {H : Hp} {a : Addr} {xs : List V} (h : ScrAt K H a xs) : SqL K H a xs := h.elim (fun z => .inl (.inr z)) .inr
section
variable (K : PySem.W.Frag) (ρ α : List Addr) (H : Hp)
mutual
/-- v is d: ρ tells where the objects of the store lie, no list that stands still lies in α -/
def Rep : D → V → Prop
  | .non, v => v = .non
  | .bl b, v => v = .bl b
  | .int i, v => v = .int i
  | .str x, v => v = .str x
  | .tup ds, v => ∃ a vs, v = .ref a ∧ SqT K H a vs ∧ Reps ds vs
  | .lst ds, v => ∃ a vs, v = .ref a ∧ H a = some (HO.lst vs) ∧ a ∉ α ∧ Reps ds vs
  | .scr ds, v => ∃ a vs, v = .ref a ∧ ScrAt K H a vs ∧ Reps ds vs
  | .ref n, v => ∃ a, v = .ref a ∧ ρ[n]? = some a
def Reps : List D → List V → Prop
  | [], vs => vs = []
  | d :: ds, vs => ∃ v r, vs = v :: r ∧ Rep d v ∧ Reps ds r
end
/-- the store's objects -/
structure StRel (objs : List Ob) : Prop where
  len : ρ.length = objs.length
  nd : ρ.Nodup
  at_ : ∀ (n : Nat) (a : Addr) (ds : List D), ρ[n]? = some a → objs[n]? = some (Ob.lst ds) → ∃ vs : List V, H a = some (HO.lst vs) ∧ Reps K ρ α H ds vs
end
/-- nothing stands at a (or a table) -/
def Nw (H : Hp) (a : Addr) : Prop := ∀ o, H a = some o → ∃ ps, o = HO.tbl ps
theorem Nw.of {H : Hp} {a : Addr} (h : H a = none) : Nw H a := fun o e => by rw [h] at e; cases e
theorem Nw.no {H : Hp} {a : Addr} {o : HO} (h : Nw H a) (e : H a = some o) (n : ∀ ps, o ≠ .tbl ps) : False := by
  obtain ⟨ps, z⟩ := h o e
  exact n ps z
/-- what may change: the lists at ρ, tables; what is new at ρ' was nothing at all -/
structure Ext (K : PySem.W.Frag) (ρ : List Addr) (H : Hp) (ρ' : List Addr) (H' : Hp) : Prop where
  pre : ρ <+: ρ'
  new : ∀ a ∈ ρ', a ∈ ρ ∨ Nw H a
  keep : ∀ a o, H a = some o → (a ∈ ρ → ∀ xs, o ≠ .lst xs) → (∀ ps, o ≠ .tbl ps) → H' a = some o
  there : ∀ a o, H a = some o → (∀ ps, o ≠ .tbl ps) → ∃ o', H' a = some o' ∧ ∀ ps, o' ≠ .tbl ps
def Av (K : PySem.W.Frag) (α : List Addr) (H : Hp) (α' : List Addr) : Prop := ∀ a ∈ α', a ∈ α ∨ Nw H a

section
variable {K : PySem.W.Frag} {ρ ρ1 ρ' α α' : List Addr} {H H1 H' : Hp}
theorem Ext.refl : Ext K ρ H ρ H := ⟨List.prefix_refl _, fun _ h => .inl h, fun _ _ h _ _ => h, fun _ o h n => ⟨o, h, n⟩⟩
theorem Ext.back (e : Ext K ρ H ρ' H') {a : Addr} (h : Nw H' a) : Nw H a := fun o q => by
  apply Classical.byContradiction
  intro n
  obtain ⟨o', z, m⟩ := e.there a o q fun ps w => n ⟨ps, w⟩
  exact h.no z m
theorem Ext.trans (e : Ext K ρ H ρ1 H1) (f : Ext K ρ1 H1 ρ' H') : Ext K ρ H ρ' H' where
  pre := e.pre.trans f.pre
  new := fun a h => (f.new a h).elim (e.new a) fun z => .inr (e.back z)
  keep := fun a o h n t => f.keep a o (e.keep a o h n t) (fun z => (e.new a z).elim n fun y => (y.no h t).elim) t
  there := fun a o h n => let ⟨o', z, m⟩ := e.there a o h n; f.there a o' z m
theorem Ext.av (e : Ext K ρ H ρ' H') : Av K ρ H ρ' := e.new
theorem Ext.upd {p : Addr} {o : HO} (hp : H p = none) : Ext K ρ H ρ (upd H p o) where
  pre := List.prefix_refl _
  new := fun _ h => .inl h
  keep := fun a u h _ _ => by rw [upd_ne (ne_of_none h hp)]; exact h
  there := fun a u h n => ⟨u, by rw [upd_ne (ne_of_none h hp)]; exact h, n⟩
theorem Ext.write {p : Addr} {xs ys : List V} (hp : H p = some (.lst xs)) (m : p ∈ ρ) : Ext K ρ H ρ (L2.upd H p (.lst ys)) where
  pre := List.prefix_refl _
  new := fun _ h => .inl h
  keep := fun a u h n _ => by
    by_cases e : a = p
    · subst e; rw [hp] at h; cases h; exact absurd rfl (n m xs)
    · rw [upd_ne e]; exact h
  there := fun a u h n => by
    by_cases e : a = p
    · subst e; exact ⟨_, upd_same, fun _ z => nomatch z⟩
    · exact ⟨u, by rw [upd_ne e]; exact h, n⟩
theorem Ext.box {p : Addr} (e : Ext K ρ H ρ1 H1) (hp : Nw H p) : Ext K ρ H (ρ1 ++ [p]) H1 where
  pre := e.pre.trans (List.prefix_append _ _)
  new := fun a h => (List.mem_append.mp h).elim (e.new a) fun z => by
    obtain rfl : a = p := by simpa using z
    exact .inr hp
  keep := e.keep
  there := e.there
theorem Ext.cut (e : Ext K ρ H ρ' H') : Ext K ρ H ρ H' := ⟨List.prefix_refl _, fun _ h => .inl h, e.keep, e.there⟩
theorem Ext.sqT (e : Ext K ρ H ρ' H') {a : Addr} {vs : List V} (h : SqT K H a vs) : SqT K H' a vs := by
  rcases h with (h | ⟨o, h⟩) | h
  · exact .inl (.inl (e.keep a _ h (fun _ _ z => by cases z) fun _ z => by cases z))
  · exact .inl (.inr ⟨o, e.keep a _ h (fun _ _ z => by cases z) fun _ z => by cases z⟩)
  · exact .inr h
theorem Ext.scr (e : Ext K ρ H ρ' H') {a : Addr} {vs : List V} (h : ScrAt K H a vs) : ScrAt K H' a vs := by
  rcases h with ⟨o, h⟩ | h
  · exact .inl ⟨o, e.keep a _ h (fun _ _ z => by cases z) fun _ z => by cases z⟩
  · exact .inr h
end
mutual
theorem Rep.mono {K : PySem.W.Frag} {ρ ρ' α α' : List Addr} {H H' : Hp} (e : Ext K ρ H ρ' H') (sub : ∀ a ∈ ρ, a ∈ α) (av : Av K α H α') : ∀ {d : D} {v : V}, Rep K ρ α H d v → Rep K ρ' α' H' d v
  | .non, _, h => by simpa only [Rep] using h
  | .bl _, _, h => by simpa only [Rep] using h
  | .int _, _, h => by simpa only [Rep] using h
  | .str _, _, h => by simpa only [Rep] using h
  | .tup ds, v, h => by
    simp only [Rep] at h ⊢
    obtain ⟨a, vs, h1, h2, h3⟩ := h
    exact ⟨a, vs, h1, e.sqT h2, Reps.mono e sub av h3⟩
  | .lst ds, v, h => by
    simp only [Rep] at h ⊢
    obtain ⟨a, vs, h1, h2, h3, h4⟩ := h
    exact ⟨a, vs, h1, e.keep a _ h2 (fun z => absurd (sub a z) h3) (fun _ z => by cases z), fun z => (av a z).elim h3 (fun y => (y.no h2 fun _ z => nomatch z)), Reps.mono e sub av h4⟩
  | .scr ds, v, h => by
    simp only [Rep] at h ⊢
    obtain ⟨a, vs, h1, h2, h4⟩ := h
    exact ⟨a, vs, h1, e.scr h2, Reps.mono e sub av h4⟩
  | .ref n, v, h => by
    simp only [Rep] at h ⊢
    obtain ⟨a, h1, h2⟩ := h
    obtain ⟨t, rfl⟩ := e.pre
    exact ⟨a, h1, by rw [List.getElem?_append_left (List.getElem?_eq_some_iff.mp h2).1]; exact h2⟩
theorem Reps.mono {K : PySem.W.Frag} {ρ ρ' α α' : List Addr} {H H' : Hp} (e : Ext K ρ H ρ' H') (sub : ∀ a ∈ ρ, a ∈ α) (av : Av K α H α') : ∀ {ds : List D} {vs : List V}, Reps K ρ α H ds vs → Reps K ρ' α' H' ds vs
  | [], _, h => by simpa only [Reps] using h
  | d :: ds, vs, h => by
    simp only [Reps] at h ⊢
    obtain ⟨v, r, h1, h2, h3⟩ := h
    exact ⟨v, r, h1, Rep.mono e sub av h2, Reps.mono e sub av h3⟩
end
mutual
/-- fewer places to avoid, more objects -/
theorem Rep.weak {K : PySem.W.Frag} {ρ ρ' α α' : List Addr} {H : Hp} (pre : ρ <+: ρ') (sub : ∀ a ∈ α', a ∈ α) : ∀ {d : D} {v : V}, Rep K ρ α H d v → Rep K ρ' α' H d v
  | .non, _, h => by simpa only [Rep] using h
  | .bl _, _, h => by simpa only [Rep] using h
  | .int _, _, h => by simpa only [Rep] using h
  | .str _, _, h => by simpa only [Rep] using h
  | .tup ds, v, h => by
    simp only [Rep] at h ⊢
    obtain ⟨a, vs, h1, h2, h3⟩ := h
    exact ⟨a, vs, h1, h2, Reps.weak pre sub h3⟩
  | .lst ds, v, h => by
    simp only [Rep] at h ⊢
    obtain ⟨a, vs, h1, h2, h3, h4⟩ := h
    exact ⟨a, vs, h1, h2, fun z => h3 (sub a z), Reps.weak pre sub h4⟩
  | .scr ds, v, h => by
    simp only [Rep] at h ⊢
    obtain ⟨a, vs, h1, h2, h4⟩ := h
    exact ⟨a, vs, h1, h2, Reps.weak pre sub h4⟩
  | .ref n, v, h => by
    simp only [Rep] at h ⊢
    obtain ⟨a, h1, h2⟩ := h
    obtain ⟨t, rfl⟩ := pre
    exact ⟨a, h1, by rw [List.getElem?_append_left (List.getElem?_eq_some_iff.mp h2).1]; exact h2⟩
theorem Reps.weak {K : PySem.W.Frag} {ρ ρ' α α' : List Addr} {H : Hp} (pre : ρ <+: ρ') (sub : ∀ a ∈ α', a ∈ α) : ∀ {ds : List D} {vs : List V}, Reps K ρ α H ds vs → Reps K ρ' α' H ds vs
  | [], _, h => by simpa only [Reps] using h
  | d :: ds, vs, h => by
    simp only [Reps] at h ⊢
    obtain ⟨v, r, h1, h2, h3⟩ := h
    exact ⟨v, r, h1, Rep.weak pre sub h2, Reps.weak pre sub h3⟩
end
mutual
/-- references below n: only they are needed -/
theorem Rep.low {K : PySem.W.Frag} {ρ α α' : List Addr} {H : Hp} {n : Nat} (sub : ∀ a ∈ α', a ∈ α) : ∀ {d : D} {v : V}, D.lo n d = true → Rep K ρ α H d v → Rep K (ρ.take n) α' H d v
  | .non, _, _, h => by simpa only [Rep] using h
  | .bl _, _, _, h => by simpa only [Rep] using h
  | .int _, _, _, h => by simpa only [Rep] using h
  | .str _, _, _, h => by simpa only [Rep] using h
  | .tup ds, v, l, h => by
    simp only [Rep] at h ⊢
    simp only [D.lo] at l
    obtain ⟨a, vs, h1, h2, h3⟩ := h
    exact ⟨a, vs, h1, h2, Reps.low sub l h3⟩
  | .lst ds, v, l, h => by
    simp only [Rep] at h ⊢
    simp only [D.lo] at l
    obtain ⟨a, vs, h1, h2, h3, h4⟩ := h
    exact ⟨a, vs, h1, h2, fun z => h3 (sub a z), Reps.low sub l h4⟩
  | .scr ds, v, l, h => by
    simp only [Rep] at h ⊢
    simp only [D.lo] at l
    obtain ⟨a, vs, h1, h2, h4⟩ := h
    exact ⟨a, vs, h1, h2, Reps.low sub l h4⟩
  | .ref k, v, l, h => by
    simp only [Rep] at h ⊢
    simp only [D.lo, decide_eq_true_eq] at l
    obtain ⟨a, h1, h2⟩ := h
    exact ⟨a, h1, by rw [List.getElem?_take_of_lt l]; exact h2⟩
theorem Reps.low {K : PySem.W.Frag} {ρ α α' : List Addr} {H : Hp} {n : Nat} (sub : ∀ a ∈ α', a ∈ α) : ∀ {ds : List D} {vs : List V}, D.loL n ds = true → Reps K ρ α H ds vs → Reps K (ρ.take n) α' H ds vs
  | [], _, _, h => by simpa only [Reps] using h
  | d :: ds, vs, l, h => by
    simp only [Reps] at h ⊢
    simp only [D.loL, Bool.and_eq_true] at l
    obtain ⟨v, r, h1, h2, h3⟩ := h
    exact ⟨v, r, h1, Rep.low sub l.1 h2, Reps.low sub l.2 h3⟩
end
mutual
theorem D.lo_mono {m n : Nat} (h : m ≤ n) : ∀ {d : D}, D.lo m d = true → D.lo n d = true
  | .non, _ => rfl
  | .bl _, _ => rfl
  | .int _, _ => rfl
  | .str _, _ => rfl
  | .tup ds, l => by
    simp only [D.lo] at l ⊢
    exact D.loL_mono h l
  | .lst ds, l => by
    simp only [D.lo] at l ⊢
    exact D.loL_mono h l
  | .scr ds, l => by
    simp only [D.lo] at l ⊢
    exact D.loL_mono h l
  | .ref k, l => by
    simp only [D.lo, decide_eq_true_eq] at l ⊢
    omega
theorem D.loL_mono {m n : Nat} (h : m ≤ n) : ∀ {ds : List D}, D.loL m ds = true → D.loL n ds = true
  | [], _ => rfl
  | d :: ds, l => by
    simp only [D.loL, Bool.and_eq_true] at l ⊢
    exact ⟨D.lo_mono h l.1, D.loL_mono h l.2⟩
end
theorem loL_iff {n : Nat} {ds : List D} : D.loL n ds = true ↔ ∀ d ∈ ds, D.lo n d = true := by
  induction ds with
  | nil => simp [D.loL]
  | cons d r ih => simp [D.loL, ih]
section
variable {K : PySem.W.Frag} {ρ ρ' α α' : List Addr} {H H' : Hp}
theorem Reps.len : ∀ {ds : List D} {vs : List V}, Reps K ρ α H ds vs → ds.length = vs.length
  | [], _, h => by simp only [Reps] at h; rw [h]; rfl
  | d :: ds, _, h => by
    simp only [Reps] at h
    obtain ⟨v, r, rfl, _, h3⟩ := h
    simp [Reps.len h3]
theorem Reps.get : ∀ {ds : List D} {vs : List V} {i : Nat} {d : D}, Reps K ρ α H ds vs → ds[i]? = some d → ∃ v, vs[i]? = some v ∧ Rep K ρ α H d v
  | [], _, _, _, _, e => by simp at e
  | x :: ds, vs, i, d, h, e => by
    simp only [Reps] at h
    obtain ⟨v, r, rfl, h2, h3⟩ := h
    cases i with
    | zero => simp at e; subst e; exact ⟨v, rfl, h2⟩
    | succ i => exact Reps.get (i := i) h3 (by simpa using e)
theorem Reps.of : ∀ {ds : List D} {vs : List V}, ds.length = vs.length → (∀ (i : Nat) (d : D) (v : V), ds[i]? = some d → vs[i]? = some v → Rep K ρ α H d v) → Reps K ρ α H ds vs
  | [], [], _, _ => by simp [Reps]
  | [], _ :: _, h, _ => by simp at h
  | _ :: _, [], h, _ => by simp at h
  | d :: ds, v :: vs, h, f => by
    simp only [Reps]
    exact ⟨v, vs, rfl, f 0 d v rfl rfl, Reps.of (by simpa using h) fun i d v a b => f (i + 1) d v (by simpa using a) (by simpa using b)⟩
theorem Reps.cons {d : D} {ds : List D} {v : V} {vs : List V} (a : Rep K ρ α H d v) (b : Reps K ρ α H ds vs) : Reps K ρ α H (d :: ds) (v :: vs) := by
  simp only [Reps]; exact ⟨v, vs, rfl, a, b⟩
theorem Reps.nil : Reps K ρ α H [] [] := by simp only [Reps]
theorem Reps.inv {d : D} {ds : List D} {vs : List V} (h : Reps K ρ α H (d :: ds) vs) : ∃ v r, vs = v :: r ∧ Rep K ρ α H d v ∧ Reps K ρ α H ds r := by simpa only [Reps] using h
theorem Reps.app : ∀ {as bs : List D} {us vs : List V}, Reps K ρ α H as us → Reps K ρ α H bs vs → Reps K ρ α H (as ++ bs) (us ++ vs)
  | [], _, us, _, h, g => by simp only [Reps] at h; subst h; exact g
  | _ :: _, _, _, _, h, g => by
    obtain ⟨v, r, rfl, h2, h3⟩ := h.inv
    exact Reps.cons h2 (Reps.app h3 g)
theorem Reps.set {ds : List D} {vs : List V} {d : D} {v : V} (h : Reps K ρ α H ds vs) (r : Rep K ρ α H d v) (i : Nat) : Reps K ρ α H (ds.set i d) (vs.set i v) := by
  refine Reps.of (by simp [h.len]) fun j x y a b => ?_
  rw [List.getElem?_set] at a b
  have hl := h.len
  by_cases e : i = j
  · subst e
    rw [if_pos rfl] at a b
    split at a
    · rw [if_pos (by omega)] at b
      cases a; cases b; exact r
    · cases a
  · rw [if_neg e] at a b
    obtain ⟨w, h1, h2⟩ := h.get a
    rw [h1] at b; cases b; exact h2
theorem Reps.sub {ds : List D} {vs : List V} (h : Reps K ρ α H ds vs) {es : List D} {us : List V} (hl : es.length = us.length) (f : ∀ i : Nat, ∃ j : Nat, es[i]? = ds[j]? ∧ us[i]? = vs[j]?) : Reps K ρ α H es us := Reps.of hl fun i d v a b => by
  obtain ⟨j, e1, e2⟩ := f i
  rw [e1] at a; rw [e2] at b
  obtain ⟨w, h1, h2⟩ := h.get a
  rw [h1] at b; cases b; exact h2
theorem Reps.take {ds : List D} {vs : List V} (h : Reps K ρ α H ds vs) (n : Nat) : Reps K ρ α H (ds.take n) (vs.take n) := Reps.of (by simp [h.len]) fun i d v a b => by
  rw [List.getElem?_take] at a b
  split at a
  · rw [if_pos (by assumption)] at b
    obtain ⟨w, h1, h2⟩ := h.get a
    rw [h1] at b; cases b; exact h2
  · cases a
theorem Reps.drop {ds : List D} {vs : List V} (h : Reps K ρ α H ds vs) (n : Nat) : Reps K ρ α H (ds.drop n) (vs.drop n) := Reps.of (by simp [h.len]) fun i d v a b => by
  rw [List.getElem?_drop] at a b
  obtain ⟨w, h1, h2⟩ := h.get a
  rw [h1] at b; cases b; exact h2
theorem Reps.rev {ds : List D} {vs : List V} (h : Reps K ρ α H ds vs) : Reps K ρ α H ds.reverse vs.reverse := by
  induction ds generalizing vs with
  | nil => simp only [Reps] at h; subst h; exact Reps.nil
  | cons d ds ih =>
    obtain ⟨v, r, rfl, h2, h3⟩ := h.inv
    rw [List.reverse_cons, List.reverse_cons]
    exact (ih h3).app (Reps.cons h2 Reps.nil)
theorem Reps.rep {ds : List D} {vs : List V} (h : Reps K ρ α H ds vs) : ∀ n : Nat, Reps K ρ α H (List.replicate n ds).flatten (List.replicate n vs).flatten
  | 0 => Reps.nil
  | n + 1 => by
    rw [List.replicate_succ, List.replicate_succ, List.flatten_cons, List.flatten_cons]
    exact h.app (Reps.rep h n)
theorem Reps.erase {ds : List D} {vs : List V} (h : Reps K ρ α H ds vs) (i : Nat) : Reps K ρ α H (ds.eraseIdx i) (vs.eraseIdx i) := by
  rw [List.eraseIdx_eq_take_drop_succ, List.eraseIdx_eq_take_drop_succ]
  exact (h.take i).app (h.drop (i + 1))
theorem Reps.last {ds : List D} {vs : List V} (h : Reps K ρ α H ds vs) : Reps K ρ α H ds.dropLast vs.dropLast := by
  rw [List.dropLast_eq_take, List.dropLast_eq_take, h.len]
  exact h.take _

/-! ### the store -/
theorem nodupAt {l : List Addr} (nd : l.Nodup) {i j : Nat} {x : Addr} (a : l[i]? = some x) (b : l[j]? = some x) : i = j := by
  obtain ⟨h1, e1⟩ := List.getElem?_eq_some_iff.mp a
  obtain ⟨h2, e2⟩ := List.getElem?_eq_some_iff.mp b
  exact (List.getElem_inj nd).mp (e1.trans e2.symm)
theorem StRel.lt {objs : List Ob} (s : StRel K ρ α H objs) {n : Nat} {a : Addr} (h : ρ[n]? = some a) : n < objs.length := by
  rw [← s.len]; exact (List.getElem?_eq_some_iff.mp h).1
theorem StRel.ob {objs : List Ob} (s : StRel K ρ α H objs) {n : Nat} {a : Addr} (h : ρ[n]? = some a) : ∃ ds vs, objs[n]? = some (.lst ds) ∧ H a = some (.lst vs) ∧ Reps K ρ α H ds vs := by
  have l := s.lt h
  cases e : objs[n] with
  | lst ds =>
    have z : objs[n]? = some (.lst ds) := by rw [List.getElem?_eq_getElem l, e]
    obtain ⟨vs, h1, h2⟩ := s.at_ n a ds h z
    exact ⟨ds, vs, z, h1, h2⟩
theorem StRel.mem {objs : List Ob} (s : StRel K ρ α H objs) {a : Addr} (h : a ∈ ρ) : ∃ vs, H a = some (.lst vs) := by
  obtain ⟨n, e⟩ := List.mem_iff_getElem?.mp h
  obtain ⟨_, vs, _, h1, _⟩ := s.ob e
  exact ⟨vs, h1⟩
/-- nothing at ρ has changed -/
theorem StRel.keep {objs : List Ob} (s : StRel K ρ α H objs) (e : Ext K ρ H ρ H') (k : ∀ a ∈ ρ, H' a = H a) (sub : ∀ a ∈ ρ, a ∈ α) (av : Av K α H α') : StRel K ρ α' H' objs :=
  ⟨s.len, s.nd, fun n a ds h g => by
    obtain ⟨vs, h1, h2⟩ := s.at_ n a ds h g
    exact ⟨vs, by rw [k a (List.mem_of_getElem? h)]; exact h1, h2.mono e sub av⟩⟩
theorem StRel.fewer {objs : List Ob} (s : StRel K ρ α H objs) (sub : ∀ a ∈ α', a ∈ α) : StRel K ρ α' H objs :=
  ⟨s.len, s.nd, fun n a ds h g => by
    obtain ⟨vs, h1, h2⟩ := s.at_ n a ds h g
    exact ⟨vs, h1, h2.weak (List.prefix_refl _) sub⟩⟩
theorem StRel.upd {objs : List Ob} {p : Addr} {o : HO} (s : StRel K ρ ρ H objs) (hp : H p = none) : StRel K ρ ρ (L2.upd H p o) objs :=
  s.keep (Ext.upd hp) (fun a h => by
    obtain ⟨vs, e⟩ := s.mem h
    rw [upd_ne (ne_of_none e hp)]) (fun _ h => h) fun _ h => .inl h
theorem StRel.write {objs : List Ob} {n : Nat} {a : Addr} {ds : List D} {xs vs : List V} (s : StRel K ρ ρ H objs) (ha : ρ[n]? = some a) (hx : H a = some (.lst xs)) (r : Reps K ρ ρ H ds vs) : StRel K ρ ρ (L2.upd H a (.lst vs)) (objs.set n (.lst ds)) := by
  have e : Ext K ρ H ρ (L2.upd H a (.lst vs)) := Ext.write hx (List.mem_of_getElem? ha)
  refine ⟨by simpa using s.len, s.nd, fun m b es h g => ?_⟩
  rw [List.getElem?_set] at g
  by_cases q : n = m
  · subst q
    rw [ha] at h; cases h
    rw [if_pos rfl] at g
    split at g
    · cases g
      exact ⟨vs, upd_same, r.mono e (fun _ h => h) fun _ h => .inl h⟩
    · cases g
  · rw [if_neg q] at g
    obtain ⟨us, h1, h2⟩ := s.at_ m b es h g
    have nb : b ≠ a := fun z => q (nodupAt s.nd ha (z ▸ h))
    exact ⟨us, by rw [upd_ne nb]; exact h1, h2.mono e (fun _ h => h) fun _ h => .inl h⟩
theorem StRel.box {objs : List Ob} {p : Addr} {ds : List D} {vs : List V} (s : StRel K ρ (p :: ρ) H objs) (np : p ∉ ρ) (hp : H p = some (.lst vs)) (r : Reps K ρ (p :: ρ) H ds vs) : StRel K (ρ ++ [p]) (ρ ++ [p]) H (objs ++ [.lst ds]) := by
  have sub : ∀ a ∈ ρ ++ [p], a ∈ p :: ρ := fun a h => by
    rcases List.mem_append.mp h with z | z
    · exact List.mem_cons_of_mem _ z
    · rw [List.mem_singleton.mp z]; exact List.mem_cons_self
  refine ⟨by simp [s.len], List.nodup_append.mpr ⟨s.nd, by simp, fun a h b g => by rw [List.mem_singleton.mp g]; exact fun z => np (z ▸ h)⟩, fun n a es h g => ?_⟩
  by_cases l : n < ρ.length
  · rw [List.getElem?_append_left l] at h
    rw [List.getElem?_append_left (by rw [← s.len]; exact l)] at g
    obtain ⟨us, h1, h2⟩ := s.at_ n a es h g
    exact ⟨us, h1, h2.weak (List.prefix_append _ _) sub⟩
  · rw [List.getElem?_append_right (by omega)] at h
    rw [List.getElem?_append_right (by rw [← s.len]; omega)] at g
    have e : n = ρ.length := by
      rcases Nat.lt_or_ge (n - ρ.length) 1 with q | q
      · omega
      · rw [List.getElem?_eq_none (by simpa using q)] at h; cases h
    subst e
    rw [s.len] at g
    simp at h g
    subst h; subst g
    exact ⟨vs, hp, r.weak (List.prefix_append _ _) sub⟩
/-- the first n objects, where only they are spoken of -/
theorem StRel.cut {objs : List Ob} (s : StRel K ρ α H objs) {n : Nat} (l : ∀ k ds, k < n → objs[k]? = some (.lst ds) → D.loL n ds = true) (sub : ∀ a ∈ α', a ∈ α) : StRel K (ρ.take n) α' H (objs.take n) := by
  refine ⟨by simp [s.len], s.nd.sublist (List.take_sublist _ _), fun m a ds h g => ?_⟩
  rw [List.getElem?_take] at h g
  split at h
  · rename_i lt
    rw [if_pos lt] at g
    obtain ⟨us, h1, h2⟩ := s.at_ m a ds h g
    exact ⟨us, h1, h2.low sub (l m ds lt g)⟩
  · cases h
end
/-! ### results -/
/-- v is x: a value, or a list that was not there at H and that nobody holds -/
def ResX (K : PySem.W.Frag) (ρ : List Addr) (H H' : Hp) (objs : List Ob) : X → V → Prop
  | .v d, v => StRel K ρ ρ H' objs ∧ Rep K ρ ρ H' d v
  | .n ds, v => ∃ a vs, v = .ref a ∧ Nw H a ∧ a ∉ ρ ∧ H' a = some (.lst vs) ∧ StRel K ρ (a :: ρ) H' objs ∧ Reps K ρ (a :: ρ) H' ds vs
section
variable {K : PySem.W.Frag} {ρ ρ' α α' : List Addr} {H H0 H' : Hp}
theorem ResX.frz {objs : List Ob} {x : X} {v : V} (r : ResX K ρ H H' objs x v) : StRel K ρ ρ H' objs ∧ Rep K ρ ρ H' x.d v := by
  cases x with
  | v d => exact r
  | n ds =>
    obtain ⟨a, vs, h1, h2, h3, h4, h5, h6⟩ := r
    have sub : ∀ b ∈ ρ, b ∈ a :: ρ := fun b h => List.mem_cons_of_mem _ h
    refine ⟨h5.fewer sub, ?_⟩
    show Rep K ρ ρ H' (.lst ds) v
    simp only [Rep]
    exact ⟨a, vs, h1, h4, h3, h6.weak (List.prefix_refl _) sub⟩
/-- seen from earlier on -/
theorem ResX.back {objs : List Ob} {x : X} {v : V} (r : ResX K ρ' H H' objs x v) (e : Ext K ρ H0 ρ1 H) : ResX K ρ' H0 H' objs x v := by
  cases x with
  | v d => exact r
  | n ds =>
    obtain ⟨a, vs, h1, h2, h⟩ := r
    exact ⟨a, vs, h1, e.back h2, h⟩
theorem resD {objs : List Ob} {n b : Nat} {β : List Addr} (s : StRel K ρ' α H' objs) (h1 : ∀ a ∈ β, a ∈ α) (h2 : ∀ k a, ρ'[k]? = some a → n ≤ k → k ≠ b → a ∉ β) : ∀ (f : Nat) (d e : D) (v : V), D.res objs n b f d = some e → Rep K ρ' α H' d v → Rep K (ρ'.take n) β H' e v := by
  intro f
  induction f with
  | zero =>
    intro d e v h r
    cases d with
    | non => simp only [D.res, Option.some.injEq] at h; subst h; simpa only [Rep] using r
    | bl _ => simp only [D.res, Option.some.injEq] at h; subst h; simpa only [Rep] using r
    | int _ => simp only [D.res, Option.some.injEq] at h; subst h; simpa only [Rep] using r
    | str _ => simp only [D.res, Option.some.injEq] at h; subst h; simpa only [Rep] using r
    | tup ds =>
      simp only [D.res] at h
      split at h
      · cases h; exact Rep.low h1 (by simpa only [D.lo]) r
      · cases h
    | lst ds =>
      simp only [D.res] at h
      split at h
      · cases h; exact Rep.low h1 (by simpa only [D.lo]) r
      · cases h
    | scr ds =>
      simp only [D.res] at h
      split at h
      · cases h; exact Rep.low h1 (by simpa only [D.lo]) r
      · cases h
    | ref k =>
      simp only [D.res] at h
      split at h
      · cases h; exact Rep.low h1 (by simpa only [D.lo, decide_eq_true_eq]) r
      · cases h
  | succ f ih =>
    have all : ∀ (ds es : List D) (vs : List V), ds.mapM (D.res objs n b f) = some es → Reps K ρ' α H' ds vs → Reps K (ρ'.take n) β H' es vs := by
      intro ds
      induction ds with
      | nil => intro es vs h r; simp at h; subst h; simp only [Reps] at r ⊢; exact r
      | cons d ds ih2 =>
        intro es vs h r
        obtain ⟨v, q, rfl, r1, r2⟩ := r.inv
        rw [List.mapM_cons] at h
        cases h3 : D.res objs n b f d with
        | none => rw [h3] at h; cases h
        | some e =>
          rw [h3] at h
          cases h4 : ds.mapM (D.res objs n b f) with
          | none => rw [h4] at h; cases h
          | some es' =>
            rw [h4] at h
            cases h
            exact Reps.cons (ih d e v h3 r1) (ih2 es' q h4 r2)
    intro d e v h r
    cases d with
    | non => simp only [D.res, Option.some.injEq] at h; subst h; simpa only [Rep] using r
    | bl _ => simp only [D.res, Option.some.injEq] at h; subst h; simpa only [Rep] using r
    | int _ => simp only [D.res, Option.some.injEq] at h; subst h; simpa only [Rep] using r
    | str _ => simp only [D.res, Option.some.injEq] at h; subst h; simpa only [Rep] using r
    | tup ds =>
      simp only [D.res] at h
      split at h
      · cases h; exact Rep.low h1 (by simpa only [D.lo]) r
      · obtain ⟨es, h3, h4⟩ := Option.map_eq_some_iff.mp h
        subst h4
        simp only [Rep] at r ⊢
        obtain ⟨a, vs, r1, r2, r3⟩ := r
        exact ⟨a, vs, r1, r2, all ds es vs h3 r3⟩
    | lst ds =>
      simp only [D.res] at h
      split at h
      · cases h; exact Rep.low h1 (by simpa only [D.lo]) r
      · obtain ⟨es, h3, h4⟩ := Option.map_eq_some_iff.mp h
        subst h4
        simp only [Rep] at r ⊢
        obtain ⟨a, vs, r1, r2, r3, r4⟩ := r
        exact ⟨a, vs, r1, r2, fun z => r3 (h1 a z), all ds es vs h3 r4⟩
    | scr ds =>
      simp only [D.res] at h
      split at h
      · cases h; exact Rep.low h1 (by simpa only [D.lo]) r
      · cases h
    | ref k =>
      simp only [D.res] at h
      split at h
      · cases h; exact Rep.low h1 (by simpa only [D.lo, decide_eq_true_eq]) r
      · split at h
        · cases h
        · rename_i nk nb
          simp only [Rep] at r
          obtain ⟨a, rfl, ha⟩ := r
          obtain ⟨ds, vs, e1, e2, e3⟩ := s.ob ha
          rw [e1] at h
          obtain ⟨es, h3, h4⟩ := Option.map_eq_some_iff.mp h
          subst h4
          simp only [Rep]
          exact ⟨a, vs, rfl, e2, h2 k a ha (by omega) nb, all ds es vs h3 e3⟩
theorem resL {objs : List Ob} {n b f : Nat} {β : List Addr} (s : StRel K ρ' α H' objs) (h1 : ∀ a ∈ β, a ∈ α) (h2 : ∀ k a, ρ'[k]? = some a → n ≤ k → k ≠ b → a ∉ β) : ∀ {ds es : List D} {vs : List V}, ds.mapM (D.res objs n b f) = some es → Reps K ρ' α H' ds vs → Reps K (ρ'.take n) β H' es vs := by
  intro ds
  induction ds with
  | nil => intro es vs h r; simp at h; subst h; simp only [Reps] at r ⊢; exact r
  | cons d ds ih2 =>
    intro es vs h r
    obtain ⟨v, q, rfl, r1, r2⟩ := r.inv
    rw [List.mapM_cons] at h
    cases h3 : D.res objs n b f d with
    | none => rw [h3] at h; cases h
    | some e =>
      rw [h3] at h
      cases h4 : ds.mapM (D.res objs n b f) with
      | none => rw [h4] at h; cases h
      | some es' =>
        rw [h4] at h
        cases h
        exact Reps.cons (resD s h1 h2 f d e v h3 r1) (ih2 h4 r2)
/-- the objects from n on go -/
theorem X.res_ok {objs : List Ob} {n : Nat} {x y : X} {v : V} (hn : ρ.length = n) (pre : ρ <+: ρ') (new : ∀ a ∈ ρ', a ∈ ρ ∨ Nw H a) (l : ∀ k ds, k < n → objs[k]? = some (.lst ds) → D.loL n ds = true) (r : ResX K ρ' H H' objs x v) (h : X.res objs n x = some y) : ResX K ρ H H' (objs.take n) y v := by
  have ct : ρ'.take n = ρ := by
    obtain ⟨t, rfl⟩ := pre
    rw [← hn]; simp
  have nd := r.frz.1.nd
  have old : ∀ k a, ρ'[k]? = some a → n ≤ k → a ∉ ρ := fun k a e le m => by
    rw [← ct] at m
    obtain ⟨j, ej⟩ := List.mem_iff_getElem?.mp m
    rw [List.getElem?_take] at ej
    split at ej
    · have := nodupAt nd e ej; omega
    · cases ej
  have pm : ∀ a ∈ ρ, a ∈ ρ' := fun a m => pre.subset m
  have fr : ∀ k a, ρ'[k]? = some a → n ≤ k → Nw H a := fun k a e le => by
    rcases new a (List.mem_of_getElem? e) with z | z
    · exact absurd z (old k a e le)
    · exact z
  cases x with
  | n ds =>
    obtain ⟨a, vs, r1, r2, r3, r4, r5, r6⟩ := r
    have sub : ∀ b ∈ a :: ρ, b ∈ a :: ρ' := fun b m => (List.mem_cons.mp m).elim (fun z => by rw [z]; exact List.mem_cons_self) fun z => List.mem_cons_of_mem _ (pm b z)
    have cut := r5.cut l sub
    rw [ct] at cut
    simp only [X.res] at h
    split at h
    · rename_i lo
      cases h
      have q := r6.low sub lo
      rw [ct] at q
      exact ⟨a, vs, r1, r2, fun z => r3 (pm a z), r4, cut, q⟩
    · obtain ⟨es, h3, h4⟩ := Option.map_eq_some_iff.mp h
      subst h4
      have q := resL (b := objs.length) (β := a :: ρ) r5 sub (fun k c e le _ m => by
        rcases List.mem_cons.mp m with z | z
        · exact r3 (z ▸ List.mem_of_getElem? e)
        · exact old k c e le z) h3 r6
      rw [ct] at q
      exact ⟨a, vs, r1, r2, fun z => r3 (pm a z), r4, cut, q⟩
  | v d =>
    obtain ⟨r1, r2⟩ := r
    have cut := r1.cut l pm
    rw [ct] at cut
    have gen : ∀ {d e : D}, Rep K ρ' ρ' H' d v → D.res objs n objs.length deepN d = some e → Rep K ρ ρ H' e v := fun {d e} r2 h => by
      have q := resD (b := objs.length) (β := ρ) r1 pm (fun k c e le _ m => old k c e le m) deepN d e v h r2
      rw [ct] at q; exact q
    have low : ∀ {d : D}, Rep K ρ' ρ' H' d v → D.lo n d = true → Rep K ρ ρ H' d v := fun {d} r2 lo => by
      have q := Rep.low pm lo r2
      rw [ct] at q; exact q
    have plain : ∀ {d : D}, Rep K ρ' ρ' H' d v → (if D.lo n d = true then some (X.v d) else (D.res objs n objs.length deepN d).map .v) = some y → ResX K ρ H H' (objs.take n) y v := fun {d} r2 h => by
      split at h
      · rename_i lo
        cases h
        exact ⟨cut, low r2 lo⟩
      · obtain ⟨e, h3, h4⟩ := Option.map_eq_some_iff.mp h
        subst h4
        exact ⟨cut, gen r2 h3⟩
    cases d with
    | ref k =>
      simp only [X.res] at h
      split at h
      · rename_i lt
        cases h
        exact ⟨cut, low r2 (by simpa only [D.lo, decide_eq_true_eq] using lt)⟩
      · rename_i nlt
        simp only [Rep] at r2
        obtain ⟨a, rfl, ha⟩ := r2
        obtain ⟨ds, vs, e1, e2, e3⟩ := r1.ob ha
        rw [e1] at h
        have sub : ∀ b ∈ a :: ρ, b ∈ ρ' := fun b m => (List.mem_cons.mp m).elim (fun z => by rw [z]; exact List.mem_of_getElem? ha) (pm b)
        have cut2 := r1.cut l sub
        rw [ct] at cut2
        have hk : n ≤ k := by omega
        simp only at h
        split at h
        · rename_i lo
          cases h
          have q := e3.low sub lo
          rw [ct] at q
          exact ⟨a, vs, rfl, fr k a ha hk, old k a ha hk, e2, cut2, q⟩
        · obtain ⟨es, h3, h4⟩ := Option.map_eq_some_iff.mp h
          subst h4
          have q := resL (b := k) (β := a :: ρ) r1 sub (fun j c e le nb m => by
            rcases List.mem_cons.mp m with z | z
            · exact nb (nodupAt nd e (z ▸ ha))
            · exact old j c e le z) h3 e3
          rw [ct] at q
          exact ⟨a, vs, rfl, fr k a ha hk, old k a ha hk, e2, cut2, q⟩
    | non => exact plain r2 h
    | bl _ => exact plain r2 h
    | int _ => exact plain r2 h
    | str _ => exact plain r2 h
    | tup _ => exact plain r2 h
    | lst _ => exact plain r2 h
    | scr _ => exact plain r2 h
end
end Ev

set_option Elab.async false
set_option linter.all false
set_option maxRecDepth 100000
/-! Ev2: what was written into which object -/
namespace Ev
open PySem L2
/-- s' is behind s: no object has gone, one below all that references were written into speaks of no more than it did -/
structure Mono (s s' : St) : Prop where
  len : s.objs.length ≤ s'.objs.length
  esc : ∀ e, s.esc = some e → ∃ e', s'.esc = some e' ∧ e' ≤ e
  lo : ∀ (k : Nat) (ds : List D), s.objs[k]? = some (Ob.lst ds) → (∀ e, s'.esc = some e → k < e) → ∃ ds', s'.objs[k]? = some (Ob.lst ds') ∧ ∀ n, D.loL n ds = true → D.loL n ds' = true
theorem Mono.refl (s : St) : Mono s s := ⟨Nat.le_refl _, fun e h => ⟨e, h, Nat.le_refl _⟩, fun k ds h _ => ⟨ds, h, fun _ z => z⟩⟩
theorem Mono.trans {s s1 s' : St} (a : Mono s s1) (b : Mono s1 s') : Mono s s' where
  len := Nat.le_trans a.len b.len
  esc := fun e h => by
    obtain ⟨e1, h1, l1⟩ := a.esc e h
    obtain ⟨e2, h2, l2⟩ := b.esc e1 h1
    exact ⟨e2, h2, Nat.le_trans l2 l1⟩
  lo := fun k ds h c => by
    obtain ⟨ds1, h1, l1⟩ := a.lo k ds h fun e he => by
      obtain ⟨e2, h2, l2⟩ := b.esc e he
      exact Nat.lt_of_lt_of_le (c e2 h2) l2
    obtain ⟨ds2, h2, l2⟩ := b.lo k ds1 h1 c
    exact ⟨ds2, h2, fun n z => l2 n (l1 n z)⟩
def R.Mono {α : Type} (s : St) : R α → Prop
  | .ok _ s' => Ev.Mono s s'
  | .rs _ _ s' => Ev.Mono s s'
  | .bad => True
def O.Mono (s : St) : O → Prop
  | .nx _ s' => Ev.Mono s s'
  | .br _ s' => Ev.Mono s s'
  | .ct _ s' => Ev.Mono s s'
  | .rt _ s' => Ev.Mono s s'
  | .rs _ _ _ s' => Ev.Mono s s'
  | .bad => True
theorem R.Mono.bind {α β : Type} {s : St} {r : R α} {f : α → St → R β} (h : r.Mono s) (g : ∀ a s', Ev.Mono s s' → (f a s').Mono s') : (r.bind f).Mono s := by
  cases r with
  | ok a s' =>
    have q := g a s' h
    show (f a s').Mono s
    cases e : f a s' with
    | ok b s2 => rw [e] at q; exact h.trans q
    | rs c w s2 => rw [e] at q; exact h.trans q
    | bad => trivial
  | rs c w s' => exact h
  | bad => trivial
theorem O.Mono.after {s s1 : St} {o : O} (a : Ev.Mono s s1) (h : o.Mono s1) : o.Mono s := by
  cases o <;> first | exact a.trans h | trivial
theorem R.Mono.to {α : Type} {s : St} {r : R α} {env : Env} {f : α → St → O} (h : r.Mono s) (g : ∀ a s', Ev.Mono s s' → (f a s').Mono s') : (r.to env f).Mono s := by
  cases r with
  | ok a s' => exact (g a s' h).after h
  | rs c w s' => exact h
  | bad => trivial
theorem mono_ofO {α : Type} {s : St} {o : Option α} : (ofO s o).Mono s := by
  cases o with
  | none => trivial
  | some a => exact Mono.refl s
theorem mono_ofE {s : St} {o : Option Env} : (ofE s o).Mono s := by
  cases o with
  | none => trivial
  | some a => exact Mono.refl s
theorem escMin_l {a b : Option Nat} {e : Nat} (h : a = some e) : ∃ e', escMin a b = some e' ∧ e' ≤ e := by
  subst h
  cases b with
  | none => exact ⟨e, rfl, Nat.le_refl _⟩
  | some b => exact ⟨min e b, rfl, Nat.min_le_left _ _⟩
theorem escMin_r {a b : Option Nat} {e : Nat} (h : b = some e) : ∃ e', escMin a b = some e' ∧ e' ≤ e := by
  subst h
  cases a with
  | none => exact ⟨e, rfl, Nat.le_refl _⟩
  | some a => exact ⟨min a e, rfl, Nat.min_le_right _ _⟩
/-- an object is written -/
theorem mono_set {s : St} {n : Nat} {ds ds' : List D} {e : Option Nat} (h : s.objs[n]? = some (Ob.lst ds)) (he : ∀ x, s.esc = some x → ∃ x', e = some x' ∧ x' ≤ x)
    (hl : (∀ x, e = some x → n < x) → ∀ m, D.loL m ds = true → D.loL m ds' = true) : Mono s (setO s n (Ob.lst ds') e) where
  len := by simp [setO]
  esc := he
  lo := fun k xs hk c => by
    by_cases q : n = k
    · subst q
      rw [h] at hk; cases hk
      exact ⟨ds', by simp only [setO]; rw [List.getElem?_set_self (List.getElem?_eq_some_iff.mp h).1], hl c⟩
    · exact ⟨xs, by simp only [setO]; rw [List.getElem?_set_ne q]; exact hk, fun _ z => z⟩
theorem escW_le {k : Nat} {d : D} {e : Option Nat} : ∀ x, e = some x → ∃ x', escW k d e = some x' ∧ x' ≤ x := fun x h => by
  unfold escW
  split
  · exact ⟨x, h, Nat.le_refl _⟩
  · exact escMin_l h
/-- below what is written into, only values without references are written -/
theorem escW_nr {k : Nat} {d : D} {e : Option Nat} (c : ∀ x, escW k d e = some x → k < x) (m : Nat) : D.lo m d = true := by
  unfold escW at c
  split at c
  · rename_i h; exact D.lo_mono (Nat.zero_le m) h
  · obtain ⟨x, h, l⟩ := escMin_r (a := e) (b := some k) rfl
    exact absurd (c x h) (by omega)
theorem loL_app {m : Nat} {a b : List D} (h : D.loL m a = true) (g : D.loL m b = true) : D.loL m (a ++ b) = true := by
  rw [loL_iff] at *
  intro d hd
  exact (List.mem_append.mp hd).elim (h d) (g d)
theorem loL_sub {m : Nat} {a b : List D} (s : ∀ d ∈ b, d ∈ a) (h : D.loL m a = true) : D.loL m b = true := by
  rw [loL_iff] at *
  exact fun d hd => h d (s d hd)
theorem mono_mt (s : St) (m : Mt) (n : Nat) (as : List D) : (mt s m n as).Mono s := by
  unfold mt
  split
  · rename_i ds h
    cases m with
    | append =>
      simp only
      split
      · split
        · exact mono_set h escW_le fun c m l => loL_app l (by simp [D.loL, escW_nr c m])
        · trivial
      · trivial
    | extend =>
      simp only
      split
      · split
        · split
          · exact mono_set h escW_le fun c m l => loL_app l (by have := escW_nr c m; simpa only [D.lo] using this)
          · trivial
        · trivial
      · trivial
    | pop =>
      simp only
      split
      · split
        · exact mono_set h (fun x z => ⟨x, z, Nat.le_refl _⟩) fun _ m l => loL_sub (fun d hd => List.dropLast_subset _ hd) l
        · trivial
      · trivial
    | popi =>
      simp only
      split
      · split
        · split
          · exact mono_set h (fun x z => ⟨x, z, Nat.le_refl _⟩) fun _ m l => loL_sub (fun d hd => List.mem_of_mem_eraseIdx hd) l
          · trivial
        · trivial
      · trivial
  · trivial
def Call.Mono (cl : Call) : Prop := ∀ c as s, (cl c as s).Mono s
/-- a region is left: cut, or kept -/
theorem mono_cut {s s1 : St} (m : Mono s.enter s1) (h : escOk s.objs.length s1.esc = true) : Mono s ⟨s1.objs.take s.objs.length, s.esc⟩ where
  len := by have := m.len; simp only [St.enter] at this; simp; omega
  esc := fun e z => ⟨e, z, Nat.le_refl _⟩
  lo := fun k ds hk _ => by
    have lt := (List.getElem?_eq_some_iff.mp hk).1
    obtain ⟨ds', h1, h2⟩ := m.lo k ds hk fun e he => by
      rw [he] at h
      simp only [escOk, decide_eq_true_eq] at h
      omega
    exact ⟨ds', by simp only; rw [List.getElem?_take_of_lt lt]; exact h1, h2⟩
theorem mono_stay {s s1 : St} (m : Mono s.enter s1) : Mono s ⟨s1.objs, escMin s.esc s1.esc⟩ where
  len := m.len
  esc := fun e z => escMin_l z
  lo := fun k ds hk c => m.lo k ds hk fun e he => by
    obtain ⟨x, h1, h2⟩ := escMin_r (a := s.esc) he
    exact Nat.lt_of_lt_of_le (c x h1) h2
theorem mono_lcL {n : Nat} {st : St → Bool} {f : D → St → R (Option D)} (hf : ∀ d s, (f d s).Mono s) : ∀ (ds : List D) (s : St), (lcL n st f ds s).Mono s
  | [], s => by
    unfold lcL
    split
    · exact Mono.refl s
    · trivial
  | d :: ds, s => by
    unfold lcL
    split
    · have q := hf d s
      cases e : f d s with
      | ok o s' =>
        rw [e] at q
        cases o with
        | none =>
          have r := mono_lcL (n := n) (st := st) hf ds s'
          simp only
          cases e2 : lcL n st f ds s' <;> rw [e2] at r <;> first | exact Mono.trans q r | trivial
        | some x =>
          simp only
          split
          · rename_i acc h
            split
            · have m := mono_set (ds' := acc ++ [x]) h (escW_le (k := n) (d := x)) fun c m l => loL_app l (by simp [D.loL, escW_nr c m])
              have r := mono_lcL (n := n) (st := st) hf ds (setO s' n (.lst (acc ++ [x])) (escW n x s'.esc))
              cases e2 : lcL n st f ds (setO s' n (.lst (acc ++ [x])) (escW n x s'.esc)) <;> rw [e2] at r <;> first | exact Mono.trans q (Mono.trans m r) | trivial
            · trivial
          · trivial
      | rs c w s' => trivial
      | bad => trivial
    · trivial
/-- an object more -/
theorem mono_more (s : St) (o : Ob) : Mono s ⟨s.objs ++ [o], s.esc⟩ := ⟨by simp, fun e h => ⟨e, h, Nat.le_refl _⟩, fun k ds h _ => ⟨ds, by
  show (s.objs ++ _)[k]? = _
  rw [List.getElem?_append_left (List.getElem?_eq_some_iff.mp h).1]; exact h, fun _ z => z⟩⟩
theorem mono_lcE {s s' : St} {o : Ob} (m : Mono ⟨s.objs ++ [o], none⟩ s') : (lcE s s').Mono s := by
  have m' : Mono s.enter s' := (mono_more s.enter o).trans m
  unfold lcE
  split
  · split
    · rename_i h
      simp only [Bool.and_eq_true] at h
      exact mono_cut m' h.1.2
    · exact mono_stay m'
  · trivial
theorem lcL_rs {n : Nat} {st : St → Bool} {f : D → St → R (Option D)} {c : Nat} {w : D} {s' : St} : ∀ {ds : List D} {s : St}, lcL n st f ds s = .rs c w s' → False
  | [], s, h => by
    unfold lcL at h
    split at h <;> cases h
  | d :: ds, s, h => by
    unfold lcL at h
    split at h
    · split at h
      · split at h
        · split at h
          · exact lcL_rs h
          · cases h
        · cases h
      · exact lcL_rs h
      · cases h
      · cases h
    · cases h
theorem mono_part (t : T) {r : R X} {s : St} (h : r.Mono s) : (part t r s).Mono s := by
  cases t <;> simp only [part] <;> first | exact Mono.refl s | (refine h.bind fun x s1 _ => ?_; unfold asInt; split <;> first | exact Mono.refl s1 | trivial)
mutual
theorem mono_ev {cl : Call} (hc : cl.Mono) : ∀ (t : T) (env : Env) (s : St), (ev cl t env s).Mono s
  | .loc i, env, s => by
    simp only [ev]
    split
    · exact Mono.refl s
    · trivial
  | .cst d, env, s => by simp only [ev]; exact Mono.refl s
  | .bin o a b, env, s => by
    simp only [ev]
    exact (mono_ev hc a env s).bind fun x s1 _ => (mono_ev hc b env s1).bind fun y s2 _ => mono_ofO
  | .neg a, env, s => by
    simp only [ev]
    refine (mono_ev hc a env s).bind fun x s1 _ => ?_
    split
    · exact Mono.refl s1
    · trivial
  | .not a, env, s => by
    simp only [ev]
    exact (mono_ev hc a env s).bind fun x s1 _ => mono_ofO
  | .cmp o a b, env, s => by
    simp only [ev]
    exact (mono_ev hc a env s).bind fun x s1 _ => (mono_ev hc b env s1).bind fun y s2 _ => mono_ofO
  | .chn o p a b c, env, s => by
    simp only [ev]
    refine (mono_ev hc a env s).bind fun x s1 _ => (mono_ev hc b env s1).bind fun y s2 _ => ?_
    split
    · exact (mono_ev hc c env s2).bind fun z s3 _ => mono_ofO
    · exact Mono.refl s2
    · trivial
  | .and a b, env, s => by
    simp only [ev]
    refine (mono_ev hc a env s).bind fun x s1 _ => ?_
    split
    · exact mono_ev hc b env s1
    · exact Mono.refl s1
    · trivial
  | .or a b, env, s => by
    simp only [ev]
    refine (mono_ev hc a env s).bind fun x s1 _ => ?_
    split
    · exact Mono.refl s1
    · exact mono_ev hc b env s1
    · trivial
  | .ite c a b, env, s => by
    simp only [ev]
    refine (mono_ev hc c env s).bind fun x s1 _ => ?_
    split
    · exact mono_ev hc a env s1
    · exact mono_ev hc b env s1
    · trivial
  | .tup es, env, s => by
    simp only [ev]
    exact (mono_evs hc es env s).bind fun ds s1 _ => Mono.refl s1
  | .lst es, env, s => by
    simp only [ev]
    exact (mono_evs hc es env s).bind fun ds s1 _ => Mono.refl s1
  | .box a, env, s => by
    simp only [ev]
    refine (mono_ev hc a env s).bind fun x s1 _ => ?_
    split
    · exact mono_more s1 _
    · exact Mono.refl s1
    · trivial
  | .idx a i, env, s => by
    simp only [ev]
    exact (mono_ev hc a env s).bind fun x s1 _ => (mono_ev hc i env s1).bind fun y s2 _ => mono_ofO
  | .sl a lo hi, env, s => by
    simp only [ev]
    exact (mono_ev hc a env s).bind fun x s1 _ => (mono_part _ (mono_ev hc lo env s1)).bind fun y s2 _ => (mono_part _ (mono_ev hc hi env s2)).bind fun y s2 _ => mono_ofO
  | .no, env, s => by simp only [ev]; trivial
  | .rev a, env, s => by
    simp only [ev]
    exact (mono_ev hc a env s).bind fun x s1 _ => mono_ofO
  | .call f es, env, s => by
    simp only [ev]
    exact (mono_eva hc es env s).bind fun as s1 _ => hc _ _ _
  | .callv i es, env, s => by
    simp only [ev]
    split
    · exact (mono_eva hc es env s).bind fun as s1 _ => hc _ _ _
    · exact (mono_eva hc es env s).bind fun as s1 _ => hc _ _ _
    · trivial
  | .fn _, env, s => by simp only [ev]; trivial
  | .lam _ _, env, s => by simp only [ev]; trivial
  | .bc b es, env, s => by
    simp only [ev]
    exact (mono_evs hc es env s).bind fun as s1 _ => mono_ofO
  | .mt m o es, env, s => by
    simp only [ev]
    refine (mono_ev hc o env s).bind fun x s1 _ => ?_
    split
    · exact (mono_evs hc es env s1).bind fun ds s2 _ => mono_mt _ _ _ _
    · trivial
  | .lrng es, env, s => by
    simp only [ev]
    exact (mono_evs hc es env s).bind fun as s1 _ => mono_ofO
  | .trng es, env, s => by
    simp only [ev]
    exact (mono_evs hc es env s).bind fun as s1 _ => mono_ofO
  | .lc own g q es cs el, env, s => by
    simp only [ev]
    refine (mono_evs hc es env s).bind fun ds s1 _ => ?_
    split
    · rename_i is _
      have q := mono_lcL (n := s1.objs.length) (st := fun s' => still s1.objs s'.objs ds) (f := lcB (evc cl cs) (ev cl el) g (noL (wipe env own))) (fun d s2 => by
        unfold lcB
        split
        · refine (mono_evc hc cs _ s2).bind fun b s3 _ => ?_
          split
          · exact (mono_ev hc el _ s3).bind fun x s4 _ => Mono.refl s4
          · exact Mono.refl s3
        · trivial) is ⟨s1.objs ++ [.lst []], none⟩
      cases e : lcL s1.objs.length (fun s' => still s1.objs s'.objs ds) (lcB (evc cl cs) (ev cl el) g (noL (wipe env own))) is ⟨s1.objs ++ [.lst []], none⟩ with
      | ok u s' => rw [e] at q; exact mono_lcE q
      | rs c w s' =>
        exact (lcL_rs e).elim
      | bad => trivial
    · trivial
theorem mono_evs {cl : Call} (hc : cl.Mono) : ∀ (t : TL) (env : Env) (s : St), (evs cl t env s).Mono s
  | .nil, env, s => by simp only [evs]; exact Mono.refl s
  | .cons e r, env, s => by
    simp only [evs]
    exact (mono_ev hc e env s).bind fun x s1 _ => (mono_evs hc r env s1).bind fun ds s2 _ => Mono.refl s2
theorem mono_eva {cl : Call} (hc : cl.Mono) : ∀ (t : TL) (env : Env) (s : St), (eva cl t env s).Mono s
  | .nil, env, s => by simp only [eva]; exact Mono.refl s
  | .cons e r, env, s => by
    have hr := mono_eva hc r
    have he := mono_ev hc e
    have gen : ∀ (f : List Sl → List Sl), ((eva cl r env s).bind fun as s => R.ok (f as) s).Mono s := fun f => (hr env s).bind fun as s1 _ => Mono.refl s1
    cases e with
    | fn f => simp only [eva]; exact gen _
    | lam l c => simp only [eva]; exact gen _
    | loc i =>
      simp only [eva]
      split
      · exact gen _
      · exact gen _
      · exact gen _
      · trivial
    | _ =>
      simp only [eva]
      exact (he env s).bind fun x s1 _ => (hr env s1).bind fun as s2 _ => Mono.refl s2
theorem mono_evc {cl : Call} (hc : cl.Mono) : ∀ (t : TL) (env : Env) (s : St), (evc cl t env s).Mono s
  | .nil, env, s => by simp only [evc]; exact Mono.refl s
  | .cons e r, env, s => by
    simp only [evc]
    refine (mono_ev hc e env s).bind fun x s1 _ => ?_
    split
    · exact mono_evc hc r env s1
    · exact Mono.refl s1
    · trivial
end
theorem mono_evo {cl : Call} (hc : cl.Mono) (t : T) (env : Env) (s : St) : (evo cl t env s).Mono s := mono_part t (mono_ev hc t env s)
theorem mono_evt {cl : Call} (hc : cl.Mono) (t : T) (env : Env) (s : St) : (evt cl t env s).Mono s := (mono_ev hc t env s).bind fun x s2 _ => mono_ofO
theorem mono_frL {st : St → Bool} {f : D → Env → St → O} (hf : ∀ d env s, (f d env s).Mono s) : ∀ (ds : List D) (env : Env) (s : St), (frL st f ds env s).Mono s
  | [], env, s => by
    unfold frL
    split
    · exact Mono.refl s
    · trivial
  | d :: ds, env, s => by
    unfold frL
    split
    · have q := hf d env s
      cases e : f d env s with
      | nx env' s' => rw [e] at q; exact (mono_frL (st := st) hf ds env' s').after q
      | ct env' s' => rw [e] at q; exact (mono_frL (st := st) hf ds env' s').after q
      | br env' s' => rw [e] at q; exact q
      | rt x s' => rw [e] at q; exact q
      | rs c w env' s' => rw [e] at q; exact q
      | bad => trivial
    · trivial
theorem mono_whL {c : Env → St → R Bool} {f : Env → St → O} (hc : ∀ env s, (c env s).Mono s) (hf : ∀ env s, (f env s).Mono s) : ∀ (n : Nat) (env : Env) (s : St), (whL c f n env s).Mono s
  | 0, env, s => by unfold whL; trivial
  | n + 1, env, s => by
    unfold whL
    refine (hc env s).to fun b s1 _ => ?_
    split
    · have q := hf env s1
      cases e : f env s1 with
      | nx env' s' => rw [e] at q; exact (mono_whL hc hf n env' s').after q
      | ct env' s' => rw [e] at q; exact (mono_whL hc hf n env' s').after q
      | br env' s' => rw [e] at q; exact q
      | rt x s' => rw [e] at q; exact q
      | rs c w env' s' => rw [e] at q; exact q
      | bad => trivial
    · exact Mono.refl s1
theorem mono_leaveX {kp : Bool} {s s1 : St} {x : X} (m : Mono s.enter s1) : (leaveX kp s x s1).Mono s := by
  unfold leaveX
  split
  · rename_i h
    simp only [Bool.and_eq_true] at h
    split
    · exact mono_cut m h.2
    · exact mono_stay m
  · exact mono_stay m
theorem mono_leaveR {s s1 : St} {c : Nat} {w : D} (m : Mono s.enter s1) : (leaveR s c w s1).Mono s := by
  unfold leaveR
  split
  · rename_i h
    simp only [Bool.and_eq_true] at h
    exact mono_cut m h.1
  · exact mono_stay m
theorem mono_leaveS {s s1 : St} {env : Env} {k : Env → St → O} (m : Mono s.enter s1) (hk : ∀ e s', (k e s').Mono s') : (leaveS s env s1 k).Mono s := by
  unfold leaveS
  split
  · rename_i h
    simp only [Bool.and_eq_true] at h
    exact (hk _ _).after (mono_cut m h.1)
  · exact (hk _ _).after (mono_stay m)
theorem mono_exS {cl : Call} (hc : cl.Mono) : ∀ (t : S) (env : Env) (s : St), (exS cl t env s).Mono s
  | .ex e, env, s => by
    simp only [exS]
    exact (mono_ev hc e env s).to fun x s1 _ => Mono.refl s1
  | .asg g e, env, s => by
    simp only [exS]
    exact (mono_ev hc e env s).to fun x s1 _ => mono_ofE
  | .setI o i e, env, s => by
    simp only [exS]
    refine (mono_ev hc e env s).to fun x s1 _ => (mono_ev hc o env s1).to fun y s2 _ => (mono_ev hc i env s2).to fun z s3 _ => ?_
    split
    · split
      · rename_i h
        split
        · exact mono_set h escW_le fun c m l => by
            rw [loL_iff] at l ⊢
            intro d hd
            rcases List.mem_or_eq_of_mem_set hd with q | q
            · exact l d q
            · rw [q]; exact escW_nr c m
        · trivial
      · trivial
    · trivial
  | .setSl o lo hi e, env, s => by
    simp only [exS]
    refine (mono_ev hc e env s).to fun x s1 _ => (mono_ev hc o env s1).to fun y s2 _ => (mono_evo hc lo env s2).to fun l s3 _ => (mono_evo hc hi env s3).to fun h s4 _ => ?_
    split
    · split
      · rename_i h
        split
        · exact mono_set h escW_le fun c m l => by
            have q := escW_nr c m
            simp only [D.lo] at q
            exact loL_app (loL_app (loL_sub (fun d hd => List.mem_of_mem_take hd) l) q) (loL_sub (fun d hd => List.mem_of_mem_drop hd) l)
        · trivial
      · trivial
    · trivial
  | .aug i o e, env, s => by
    simp only [exS]
    split
    · refine (mono_ev hc e env s).to fun x s1 _ => ?_
      split
      · exact Mono.refl s1
      · trivial
    · trivial
  | .ret e, env, s => by
    simp only [exS]
    exact (mono_ev hc e env s).to fun x s1 _ => Mono.refl s1
  | .retN, env, s => by simp only [exS]; exact Mono.refl s
  | .ife c a b, env, s => by
    simp only [exS]
    refine (mono_evt hc c env s).to fun x s1 _ => ?_
    split
    · exact mono_exS hc a env s1
    · exact mono_exS hc b env s1
  | .fr g q es b, env, s => by
    simp only [exS]
    refine (mono_evs hc es env s).to fun ds s1 _ => ?_
    split
    · refine mono_frL (fun d e s2 => ?_) _ _ _
      unfold frB
      split
      · exact mono_exS hc b _ s2
      · trivial
    · trivial
  | .wh c b, env, s => by
    simp only [exS]
    exact mono_whL (fun e s1 => mono_evt hc c e s1) (fun e s1 => mono_exS hc b e s1) _ _ _
  | .brk, env, s => by simp only [exS]; exact Mono.refl s
  | .cnt, env, s => by simp only [exS]; exact Mono.refl s
  | .skip, env, s => by simp only [exS]; exact Mono.refl s
  | .rais c e, env, s => by
    simp only [exS]
    exact (mono_ev hc e env s).to fun x s1 _ => Mono.refl s1
  | .tri b hs, env, s => by
    simp only [exS]
    have q := mono_exS hc b env s
    cases e : exS cl b env s with
    | rs c w env' s' =>
      rw [e] at q
      simp only
      split <;> exact q
    | nx env' s' => rw [e] at q; exact q
    | br env' s' => rw [e] at q; exact q
    | ct env' s' => rw [e] at q; exact q
    | rt x s' => rw [e] at q; exact q
    | bad => trivial
  | .seq a b, env, s => by
    simp only [exS]
    have q := mono_exS hc a env s
    cases e : exS cl a env s with
    | nx env' s' => rw [e] at q; exact (mono_exS hc b env' s').after q
    | rs c w env' s' => rw [e] at q; exact q
    | br env' s' => rw [e] at q; exact q
    | ct env' s' => rw [e] at q; exact q
    | rt x s' => rw [e] at q; exact q
    | bad => trivial
  | .scope kill b, env, s => by
    simp only [exS]
    have q := mono_exS hc b env s.enter
    cases e : exS cl b env s.enter with
    | nx env' s' => rw [e] at q; exact mono_leaveS q fun _ s2 => Mono.refl s2
    | ct env' s' => rw [e] at q; exact mono_leaveS q fun _ s2 => Mono.refl s2
    | br env' s' => rw [e] at q; exact mono_leaveS q fun _ s2 => Mono.refl s2
    | rt x s' => rw [e] at q; exact mono_stay q
    | rs c w env' s' => rw [e] at q; exact mono_stay q
    | bad => trivial
theorem mono_callF (P : Prog) : ∀ n, Call.Mono (callF P n)
  | 0 => fun _ _ _ => trivial
  | n + 1 => fun c as s => by
    have hc := mono_callF P n
    cases c with
    | fn f =>
      simp only [callF]
      split
      · rename_i fn _
        split
        · have q := mono_exS hc fn.body (as ++ List.replicate (fn.n - fn.ps) .no) s.enter
          cases e : exS (callF P n) fn.body (as ++ List.replicate (fn.n - fn.ps) .no) s.enter with
          | nx env' s' => rw [e] at q; exact mono_leaveX q
          | rt x s' => rw [e] at q; exact mono_leaveX q
          | rs c w env' s' => rw [e] at q; exact mono_leaveR q
          | br env' s' => trivial
          | ct env' s' => trivial
          | bad => trivial
        · trivial
      · trivial
    | lam l ws =>
      simp only [callF]
      split
      · rename_i lm _
        split
        · have q := mono_ev hc lm.body (as ++ (ws ++ List.replicate (lm.n - as.length - ws.length) .no)) s.enter
          cases e : ev (callF P n) lm.body (as ++ (ws ++ List.replicate (lm.n - as.length - ws.length) .no)) s.enter with
          | ok x s' => rw [e] at q; exact mono_leaveX q
          | rs c w s' => rw [e] at q; exact mono_leaveR q
          | bad => trivial
        · trivial
      · trivial
end Ev

set_option Elab.async false
set_option linter.all false
set_option maxRecDepth 100000
/-! Ev3: the operations on values -/
namespace Ev
open PySem L2
section
variable {K : PySem.W.Frag} {ρ ρ' α : List Addr} {H H' : Hp}
/-! ### data -/
theorem dpAll_of {f : D → Option PyData} (hf : ∀ (d : D) (p : PyData) (v : V), f d = some p → Rep K ρ α H d v → Dp K H v p) : ∀ {ds : List D} {ps : List PyData} {vs : List V}, ds.mapM f = some ps → Reps K ρ α H ds vs → DpAll K H vs ps := by
  intro ds
  induction ds with
  | nil =>
    intro ps vs h r
    simp at h
    subst h
    simp only [Reps] at r
    subst r
    exact .nil
  | cons d ds ih =>
    intro ps vs h r
    obtain ⟨v, q, rfl, r1, r2⟩ := r.inv
    rw [List.mapM_cons] at h
    cases h3 : f d with
    | none => rw [h3] at h; cases h
    | some e =>
      rw [h3] at h
      cases h4 : ds.mapM f with
      | none => rw [h4] at h; cases h
      | some es =>
        rw [h4] at h
        cases h
        exact .cons (hf d e v h3 r1) (ih h4 r2)
theorem dp_of {objs : List Ob} (s : StRel K ρ α H objs) : ∀ (f : Nat) (d : D) (p : PyData) (v : V), D.toP objs f d = some p → Rep K ρ α H d v → Dp K H v p := by
  intro f
  induction f with
  | zero =>
    intro d p v h r
    cases d <;> simp only [D.toP, Option.some.injEq, reduceCtorEq] at h <;> subst h <;> simp only [Rep] at r <;> subst r
    · exact .non
    · exact .bl _
    · exact .int _
    · exact .str _
  | succ f ih =>
    intro d p v h r
    cases d with
    | non => simp only [D.toP, Option.some.injEq] at h; subst h; simp only [Rep] at r; subst r; exact .non
    | bl _ => simp only [D.toP, Option.some.injEq] at h; subst h; simp only [Rep] at r; subst r; exact .bl _
    | int _ => simp only [D.toP, Option.some.injEq] at h; subst h; simp only [Rep] at r; subst r; exact .int _
    | str _ => simp only [D.toP, Option.some.injEq] at h; subst h; simp only [Rep] at r; subst r; exact .str _
    | scr _ => simp only [D.toP, reduceCtorEq] at h
    | tup ds =>
      simp only [D.toP] at h
      obtain ⟨ps, h1, rfl⟩ := Option.map_eq_some_iff.mp h
      simp only [Rep] at r
      obtain ⟨a, vs, rfl, r2, r3⟩ := r
      exact .tup r2 (dpAll_of ih h1 r3)
    | lst ds =>
      simp only [D.toP] at h
      obtain ⟨ps, h1, rfl⟩ := Option.map_eq_some_iff.mp h
      simp only [Rep] at r
      obtain ⟨a, vs, rfl, r2, _, r3⟩ := r
      exact .lst (SqL.of r2) (dpAll_of ih h1 r3)
    | ref n =>
      simp only [Rep] at r
      obtain ⟨a, rfl, ha⟩ := r
      obtain ⟨ds, vs, e1, e2, e3⟩ := s.ob ha
      simp only [D.toP, e1] at h
      obtain ⟨ps, h1, rfl⟩ := Option.map_eq_some_iff.mp h
      exact .lst (SqL.of e2) (dpAll_of ih h1 e3)
theorem noDictAll {f : D → Option PyData} (hf : ∀ (d : D) (p : PyData), f d = some p → p.hasDict = false) : ∀ {ds : List D} {ps : List PyData}, ds.mapM f = some ps → PyData.hasDictAll ps = false := by
  intro ds
  induction ds with
  | nil =>
    intro ps h
    simp at h
    subst h
    rfl
  | cons d ds ih =>
    intro ps h
    rw [List.mapM_cons] at h
    cases h3 : f d with
    | none => rw [h3] at h; cases h
    | some e =>
      rw [h3] at h
      cases h4 : ds.mapM f with
      | none => rw [h4] at h; cases h
      | some es =>
        rw [h4] at h
        cases h
        simp only [PyData.hasDictAll, hf d e h3, ih h4, Bool.or_self]
theorem noDict {objs : List Ob} : ∀ (f : Nat) (d : D) (p : PyData), D.toP objs f d = some p → p.hasDict = false := by
  intro f
  induction f with
  | zero =>
    intro d p h
    cases d <;> simp only [D.toP, Option.some.injEq, reduceCtorEq] at h <;> subst h <;> simp only [PyData.hasDict]
  | succ f ih =>
    intro d p h
    cases d with
    | non => simp only [D.toP, Option.some.injEq] at h; subst h; simp only [PyData.hasDict]
    | bl _ => simp only [D.toP, Option.some.injEq] at h; subst h; simp only [PyData.hasDict]
    | int _ => simp only [D.toP, Option.some.injEq] at h; subst h; simp only [PyData.hasDict]
    | str _ => simp only [D.toP, Option.some.injEq] at h; subst h; simp only [PyData.hasDict]
    | scr _ => simp only [D.toP, reduceCtorEq] at h
    | tup ds =>
      simp only [D.toP] at h
      obtain ⟨ps, h1, rfl⟩ := Option.map_eq_some_iff.mp h
      simp only [PyData.hasDict, noDictAll ih h1]
    | lst ds =>
      simp only [D.toP] at h
      obtain ⟨ps, h1, rfl⟩ := Option.map_eq_some_iff.mp h
      simp only [PyData.hasDict, noDictAll ih h1]
    | ref n =>
      simp only [D.toP] at h
      split at h
      · obtain ⟨ps, h1, rfl⟩ := Option.map_eq_some_iff.mp h
        simp only [PyData.hasDict, noDictAll ih h1]
      · cases h
/-! ### what an operation leaves -/
/-- the operation gives z, the store as it is -/
def Fin (K : PySem.W.Frag) (T : List (Addr × Str)) (ρ : List Addr) (H : Hp) (objs : List Ob) (z : X) (Q : VK) : Prop :=
  ∀ ρ' H' w, Ext K ρ H ρ' H' → LamX.Tabs T H' → ResX K ρ' H H' objs z w → Q w H'
/-- the state of an operation -/
structure Sr (K : PySem.W.Frag) (T : List (Addr × Str)) (ρ : List Addr) (H : Hp) (objs : List Ob) : Prop where
  st : StRel K ρ ρ H objs
  tab : LamX.Tabs T H
variable {T : List (Addr × Str)} {objs : List Ob} {Q : VK}
theorem Sr.upd (s : Sr K T ρ H objs) {p : Addr} {o : HO} (hp : H p = none) : Sr K T ρ (L2.upd H p o) objs :=
  ⟨s.st.upd hp, s.tab.ext fun b u h => by rw [upd_ne (ne_of_none h hp)]; exact h⟩
theorem Fin.v {d : D} {w : V} (h : Fin K T ρ H objs (.v d) Q) (s : Sr K T ρ H objs) (r : Rep K ρ ρ H d w) : Q w H := h ρ H w .refl s.tab ⟨s.st, r⟩
theorem Fin.bl {b : Bool} (h : Fin K T ρ H objs (.v (.bl b)) Q) (s : Sr K T ρ H objs) : Q (.bl b) H := h.v s (by simp only [Rep])
theorem Fin.int {b : Int} (h : Fin K T ρ H objs (.v (.int b)) Q) (s : Sr K T ρ H objs) : Q (.int b) H := h.v s (by simp only [Rep])
theorem Fin.str {b : Str} (h : Fin K T ρ H objs (.v (.str b)) Q) (s : Sr K T ρ H objs) : Q (.str b) H := h.v s (by simp only [Rep])
theorem Fin.tup {ds : List D} {vs : List V} (h : Fin K T ρ H objs (.v (.tup ds)) Q) (s : Sr K T ρ H objs) (r : Reps K ρ ρ H ds vs) {p : Addr} (hp : H p = none) : Q (.ref p) (L2.upd H p (.tup vs)) := by
  have e : Ext K ρ H ρ (L2.upd H p (.tup vs)) := Ext.upd hp
  refine h ρ _ _ e (s.upd hp).tab ⟨(s.upd hp).st, ?_⟩
  simp only [Rep]
  exact ⟨p, vs, rfl, SqT.of upd_same, r.mono e (fun _ h => h) fun _ h => .inl h⟩
theorem Fin.lst {ds : List D} {vs : List V} (h : Fin K T ρ H objs (.n ds) Q) (s : Sr K T ρ H objs) (r : Reps K ρ ρ H ds vs) {p : Addr} (hp : H p = none) (hk : K.lookup p = none) : Q (.ref p) (L2.upd H p (.lst vs)) := by
  have e : Ext K ρ H ρ (L2.upd H p (.lst vs)) := Ext.upd hp
  have np : p ∉ ρ := fun z => by
    obtain ⟨us, q⟩ := s.st.mem z
    rw [hp] at q; cases q
  have av : Av K ρ H (p :: ρ) := fun a h => (List.mem_cons.mp h).elim (fun z => .inr (by rw [z]; exact Nw.of hp)) .inl
  refine h ρ _ _ e (s.upd hp).tab ⟨p, vs, rfl, Nw.of hp, np, upd_same, s.st.keep e (fun a m => ?_) (fun _ h => h) av, r.mono e (fun _ h => h) av⟩
  rw [upd_ne (fun z : a = p => np (z ▸ m))]
/-- what a reading of a sequence finds -/
theorem seqOf_lst {d : D} {v : V} {ds : List D} (s : StRel K ρ ρ H objs) (h : lstOf objs d = some ds) (r : Rep K ρ ρ H d v) : ∃ a vs, v = .ref a ∧ H a = some (HO.lst vs) ∧ Reps K ρ ρ H ds vs := by
  cases d with
  | lst xs =>
    simp only [lstOf, Option.some.injEq] at h
    subst h
    simp only [Rep] at r
    obtain ⟨a, vs, r1, r2, _, r3⟩ := r
    exact ⟨a, vs, r1, r2, r3⟩
  | ref n =>
    simp only [Rep] at r
    obtain ⟨a, rfl, ha⟩ := r
    obtain ⟨xs, vs, e1, e2, e3⟩ := s.ob ha
    simp only [lstOf, e1, Option.some.injEq] at h
    subst h
    exact ⟨a, vs, rfl, e2, e3⟩
  | _ => simp only [lstOf, reduceCtorEq] at h
theorem seqOf_any {d : D} {v : V} {ds : List D} (s : StRel K ρ ρ H objs) (h : seqOf objs d = some ds) (r : Rep K ρ ρ H d v) : ∃ a vs, v = .ref a ∧ (SqL K H a vs ∨ SqT K H a vs) ∧ Reps K ρ ρ H ds vs := by
  cases d with
  | lst xs =>
    simp only [seqOf, Option.some.injEq] at h
    subst h
    simp only [Rep] at r
    obtain ⟨a, vs, r1, r2, _, r3⟩ := r
    exact ⟨a, vs, r1, .inl (SqL.of r2), r3⟩
  | tup xs =>
    simp only [seqOf, Option.some.injEq] at h
    subst h
    simp only [Rep] at r
    obtain ⟨a, vs, r1, r2, r3⟩ := r
    exact ⟨a, vs, r1, .inr r2, r3⟩
  | scr xs =>
    simp only [seqOf, Option.some.injEq] at h
    subst h
    simp only [Rep] at r
    obtain ⟨a, vs, r1, r2, r3⟩ := r
    exact ⟨a, vs, r1, .inl r2.sq, r3⟩
  | ref n =>
    simp only [Rep] at r
    obtain ⟨a, rfl, ha⟩ := r
    obtain ⟨xs, vs, e1, e2, e3⟩ := s.ob ha
    simp only [seqOf, e1, Option.some.injEq] at h
    subst h
    exact ⟨a, vs, rfl, .inl (SqL.of e2), e3⟩
  | _ => simp only [seqOf, reduceCtorEq] at h
theorem ints_of : ∀ {ds : List D} {is : List Int} {vs : List V}, intL ds = some is → Reps K ρ α H ds vs → vs = is.map V.int
  | [], _, _, h, r => by
    simp only [intL, Option.some.injEq] at h
    subst h
    simp only [Reps] at r
    exact r
  | .int i :: ds, is, vs, h, r => by
    simp only [intL] at h
    obtain ⟨js, h1, rfl⟩ := Option.map_eq_some_iff.mp h
    obtain ⟨v, q, rfl, r1, r2⟩ := r.inv
    simp only [Rep] at r1
    rw [r1, ints_of h1 r2]; rfl
  | .non :: _, _, _, h, _ => by simp only [intL, reduceCtorEq] at h
  | .bl _ :: _, _, _, h, _ => by simp only [intL, reduceCtorEq] at h
  | .str _ :: _, _, _, h, _ => by simp only [intL, reduceCtorEq] at h
  | .tup _ :: _, _, _, h, _ => by simp only [intL, reduceCtorEq] at h
  | .lst _ :: _, _, _, h, _ => by simp only [intL, reduceCtorEq] at h
  | .scr _ :: _, _, _, h, _ => by simp only [intL, reduceCtorEq] at h
  | .ref _ :: _, _, _, h, _ => by simp only [intL, reduceCtorEq] at h
theorem bools_of : ∀ {ds : List D} {is : List Bool} {vs : List V}, boolL ds = some is → Reps K ρ α H ds vs → vs = is.map V.bl
  | [], _, _, h, r => by
    simp only [boolL, Option.some.injEq] at h
    subst h
    simp only [Reps] at r
    exact r
  | .bl i :: ds, is, vs, h, r => by
    simp only [boolL] at h
    obtain ⟨js, h1, rfl⟩ := Option.map_eq_some_iff.mp h
    obtain ⟨v, q, rfl, r1, r2⟩ := r.inv
    simp only [Rep] at r1
    rw [r1, bools_of h1 r2]; rfl
  | .non :: _, _, _, h, _ => by simp only [boolL, reduceCtorEq] at h
  | .int _ :: _, _, _, h, _ => by simp only [boolL, reduceCtorEq] at h
  | .str _ :: _, _, _, h, _ => by simp only [boolL, reduceCtorEq] at h
  | .tup _ :: _, _, _, h, _ => by simp only [boolL, reduceCtorEq] at h
  | .lst _ :: _, _, _, h, _ => by simp only [boolL, reduceCtorEq] at h
  | .scr _ :: _, _, _, h, _ => by simp only [boolL, reduceCtorEq] at h
  | .ref _ :: _, _, _, h, _ => by simp only [boolL, reduceCtorEq] at h
end
/-- what is new is not the program's own -/
theorem fresh_K {X : Cx} {pins : List (Addr × Obj)} {σ : L2.St} {H : Hp} {s : Shared} {a : Addr} {o : HO} (J : Inv X pins σ H s) (h : H a = some o) : X.K.lookup a = none := by
  cases q : X.K.lookup a with
  | none => rfl
  | some u =>
    have z := (J.bs a u (J.ok.mod.kin a u q)).2
    rw [h] at z; cases z
/-! ### two operands -/
/-- the reading: two values as the evaluator has them, and what it makes of them -/
def r2 (K : PySem.W.Frag) (T : List (Addr × Str)) (f : List Ob → D → D → Option X) : R2 := fun u v H Q => ∃ ρ objs x y z, Sr K T ρ H objs ∧ Rep K ρ ρ H x u ∧ Rep K ρ ρ H y v ∧ f objs x y = some z ∧ Fin K T ρ H objs z Q
/-- a rule that gives a new list: its place is not the program's own -/
theorem OpR.fresh {X : Cx} {f : Value → Value → Sem Value} {r : R2} (h : OpR X f r) {pins : List (Addr × Obj)} {s : Shared} {σ : L2.St} {H : Hp} {x y : V} {v u : Value} {Q : VK} (J : Inv X pins σ H s) (rx : RelV x v) (ry : RelV y u)
    (q : r x y H fun w H' => (∀ a o, H' a = some o → X.K.lookup a = none) → Q w H') : wpAny (model X.prog X.w) X.A (f v u) (EP X pins σ Q) X.xe s :=
  thn (h pins s σ H x y v u _ J rx ry q) fun w s' ⟨z, H', J', r', q'⟩ => ⟨z, H', J', r', q' fun a o e => fresh_K J' e⟩
def opOf : Bop → Operator
  | .add => .Add | .sub => .Sub | .mul => .Mult | .fdiv => .FloorDiv | .mod => .Mod | .pow => .Pow
section
variable {X : Cx} {T : List (Addr × Str)}
theorem sm_ok {i : Int} (h : sm i = true) : -(2 ^ 64) < i ∧ i < 2 ^ 64 := by
  simpa only [sm, Bool.and_eq_true, decide_eq_true_eq] using h
/-- tuple * int: the tuple itself | a new empty one | a new one -/
theorem tup_mul_same (l : Addr) (its : Array Value) (n : Nat) (dd : Option Addr) (sl : Array (Option Value)) (x : Int) (u : Tok) (z0 : (decide (x < -(2 ^ 63)) || decide (x ≥ 2 ^ 63)) = false) (z1 : (its.isEmpty || x == 1) = true) :
    Meets (Builtin.«tuple.__mul__» ⟨[.ref l, .int x u], []⟩) (fun _ R s => s.heap.get? l = some { cls := .type "tuple", dict := dd, data := .seq its n, slots := sl } ∧ R (.ok (.ret (Value.ref l))) s) :=
  .of_wp fun prog w A R s h => by
    obtain ⟨hp, g, d, tk, os⟩ := s
    obtain ⟨hl, hr⟩ := h
    have f0 := AutoSeq1.idx_int
    wp_walk using wpAny_loadPart' hl
    repeat (first
      | (refine wpAny_ite_false (decide_eq_false (by rw [z0]; exact Bool.false_ne_true)) ?_; wp_walk using wpAny_loadPart' hl)
      | (refine wpAny_ite_true (decide_eq_true z1) ?_; wp_walk using wpAny_loadPart' hl))
    exact ⟨_, rfl, hr⟩
theorem tup_mul_none (l : Addr) (its : Array Value) (n : Nat) (dd : Option Addr) (sl : Array (Option Value)) (x : Int) (u : Tok) (z0 : (decide (x < -(2 ^ 63)) || decide (x ≥ 2 ^ 63)) = false) (z1 : (its.isEmpty || x == 1) = false) (z2 : (decide (x ≤ 0) || its.isEmpty) = true) :
    Meets (Builtin.«tuple.__mul__» ⟨[.ref l, .int x u], []⟩) (fun _ R s => s.heap.get? l = some { cls := .type "tuple", dict := dd, data := .seq its n, slots := sl } ∧
      R (.ok (.ret (Value.ref s.heap.objs.size))) { s with heap := s.heap.push { cls := Value.type "tuple", data := Data.seq #[] }, toks := s.toks }) :=
  .of_wp fun prog w A R s h => by
    obtain ⟨hp, g, d, tk, os⟩ := s
    obtain ⟨hl, hr⟩ := h
    have f0 := AutoSeq1.idx_int
    wp_walk using wpAny_loadPart' hl
    repeat (first
      | (refine wpAny_ite_false (decide_eq_false (by rw [z0]; exact Bool.false_ne_true)) ?_; wp_walk using wpAny_loadPart' hl)
      | (refine wpAny_ite_false (decide_eq_false (by rw [z1]; exact Bool.false_ne_true)) ?_; wp_walk using wpAny_loadPart' hl)
      | (refine wpAny_ite_true (decide_eq_true z2) ?_; wp_walk using wpAny_loadPart' hl))
    exact ⟨_, rfl, hr⟩
def rMulT (K : PySem.W.Frag) : R2 := fun x y H Q => ∃ l k xs, x = .ref l ∧ y = .int k ∧ SqT K H l xs ∧ -(2 ^ 62) < k ∧ k < 2 ^ 62 ∧ xs.length * k.toNat ≤ sizeLine ∧
  ((List.replicate k.toNat xs).flatten = xs → Q (.ref l) H) ∧ ∀ p, H p = none → Q (.ref p) (L2.upd H p (.tup (List.replicate k.toNat xs).flatten))
theorem op_mulT : OpR X (binaryOp .Mult) (rMulT X.K) := by
  intro pn z σ H x y v u Q J rx ry h
  obtain ⟨l, k, xs, rfl, rfl, hT, k1, k2, hz, q1, q2⟩ := h
  cases rx
  obtain ⟨t, rfl⟩ := ry
  obtain ⟨its, r, ⟨⟨cls, dd, data, sl⟩, ho, hc, n, hd⟩, hs⟩ := J.tuple hT
  simp only at hc hd
  subst hc hd
  have e : its.length = xs.length := r.length.symm
  have z0 : (decide (k < -(2 ^ 63)) || decide (k ≥ 2 ^ 63)) = false := by
    rw [decide_eq_false (by omega), decide_eq_false (by omega)] <;> rfl
  have ne : its.toArray.isEmpty = xs.isEmpty := by
    cases its with
    | nil => cases xs with
      | nil => rfl
      | cons => simp at e
    | cons => cases xs with
      | nil => simp at e
      | cons => rfl
  by_cases c1 : xs = [] ∨ k = 1
  · have z1 : (its.toArray.isEmpty || k == 1) = true := by
      rw [ne]
      rcases c1 with c | c
      · subst c; rfl
      · subst c; simp
    refine wpAny_binaryOp_repeat_ref (T := "tuple") (U := "int") (by decide) ⟨_, ho, rfl⟩ (fun s' => typeIs_int s' k t) noFill_tuple_mul F.fills_int_mul F.slot_int_rmul repeat_tuple F.slot_int_index.lookup
      (call_meets F.slot_int_rmul (typeIs_int z k t) F.entry_int_rmul (F.args_int_rmul_2 _ _) (int_rmul_tuple k t l its.toArray n dd sl)
        ⟨ho, rfl, ⟨_, ho, rfl⟩, call_meets F.slot_tuple_mul ⟨_, ho, rfl⟩ F.entry_tuple_mul (F.args_tuple_mul_2 _ _) (tup_mul_same l its.toArray n dd sl k t z0 z1) ⟨ho, ?_⟩⟩)
    refine ⟨.ref l, H, J, rfl, q1 ?_⟩
    rcases c1 with c | c
    · subst c; simp
    · subst c; simp
  · have n1 : xs ≠ [] := fun c => c1 (.inl c)
    have n2 : k ≠ 1 := fun c => c1 (.inr c)
    have z1 : (its.toArray.isEmpty || k == 1) = false := by
      rw [ne]
      cases xs with
      | nil => exact absurd rfl n1
      | cons => simp [n2]
    have laid : ∀ {h' : Heap}, (∀ b o, z.heap.get? b = some o → h'.get? b = some o) → PyProof.Rows.IsTup h' z.heap.objs.size (List.replicate k.toNat its).flatten.toArray → Inv X pn σ (L2.upd H z.heap.objs.size (.tup (List.replicate k.toNat xs).flatten)) { z with heap := h', toks := z.toks } := fun {h'} kp tp =>
      J.laid (t' := z.toks) kp (Nat.le_refl _) ⟨by rw [PyProof.Rows.lm_len_rep_flat, Nat.mul_comm]; exact hz, _, r.rep k.toNat, tp⟩
    by_cases c2 : k ≤ 0
    · have z2 : (decide (k ≤ 0) || its.toArray.isEmpty) = true := by simp [c2]
      have k0 : k.toNat = 0 := by omega
      refine wpAny_binaryOp_repeat_ref (T := "tuple") (U := "int") (by decide) ⟨_, ho, rfl⟩ (fun s' => typeIs_int s' k t) noFill_tuple_mul F.fills_int_mul F.slot_int_rmul repeat_tuple F.slot_int_index.lookup
        (call_meets F.slot_int_rmul (typeIs_int z k t) F.entry_int_rmul (F.args_int_rmul_2 _ _) (int_rmul_tuple k t l its.toArray n dd sl)
          ⟨ho, rfl, ⟨_, ho, rfl⟩, call_meets F.slot_tuple_mul ⟨_, ho, rfl⟩ F.entry_tuple_mul (F.args_tuple_mul_2 _ _) (tup_mul_none l its.toArray n dd sl k t z0 z1 z2) ⟨ho, ?_⟩⟩)
      exact ⟨.ref _, _, laid (fun b o q => Heap.get?_push_of_some _ q) (by rw [k0]; exact PyProof.Rows.IsTup.new _ _), rfl, q2 _ (J.hok.fresh (Nat.le_refl _))⟩
    · have z2 : (decide (k ≤ 0) || its.toArray.isEmpty) = false := by
        rw [ne]
        cases xs with
        | nil => exact absurd rfl n1
        | cons => simp [c2]
      have sz : ((its.toArray.size : Nat) : Int) * k ≤ sizeLine := by
        rw [List.size_toArray, e]
        have h1 : (k.toNat : Int) = k := Int.toNat_of_nonneg (by omega)
        have h2 : ((xs.length * k.toNat : Nat) : Int) ≤ (sizeLine : Nat) := Int.ofNat_le.mpr hz
        rw [← h1]
        exact_mod_cast h2
      have sl0 : (sizeLine : Int) = 16777216 := by rw [sizeLine_eq]; rfl
      have z4 : Builtin.Tuple.tupleTooMany (((its.toArray.size : Nat) : Int) * k) = false := by
        unfold Builtin.Tuple.tupleTooMany
        exact decide_eq_false (by omega)
      refine wpAny_binaryOp_repeat_ref (T := "tuple") (U := "int") (by decide) ⟨_, ho, rfl⟩ (fun s' => typeIs_int s' k t) noFill_tuple_mul F.fills_int_mul F.slot_int_rmul repeat_tuple F.slot_int_index.lookup
        (call_meets F.slot_int_rmul (typeIs_int z k t) F.entry_int_rmul (F.args_int_rmul_2 _ _) (int_rmul_tuple k t l its.toArray n dd sl)
          ⟨ho, rfl, ⟨_, ho, rfl⟩, call_meets F.slot_tuple_mul ⟨_, ho, rfl⟩ F.entry_tuple_mul (F.args_tuple_mul_2 _ _) (tuple_mulW l its.toArray n dd sl k t z0 z1 z2 (by omega) z4 (by rw [size_rep, List.size_toArray, PyProof.Rows.lm_len_rep_flat, e, Nat.mul_comm]; exact hz)) ⟨ho, ?_⟩⟩)
      rw [size_rep]
      exact ⟨.ref _, _, laid (fun b o q => Heap.get?_push_of_some _ q) (PyProof.Rows.IsTup.new _ _), rfl, q2 _ (J.hok.fresh (Nat.le_refl _))⟩
end
end Ev

set_option Elab.async false
set_option linter.all false
set_option maxRecDepth 100000
/-! Ev4: the operations' rules -/
namespace Ev
open PySem L2
section
variable {X : Cx} {T : List (Addr × Str)}
theorem op_intD {op : Operator} {f : Int → Int → Option Int} {C : Int → Int → Prop} {g : Int → Int → Int} (h : OpR X (binaryOp op) (rI C fun i j => .int (g i j))) (hf : ∀ i j k, f i j = some k → C i j ∧ k = g i j) :
    OpR X (binaryOp op) (r2 X.K T fun _ x y => intD f x y) := by
  intro pn z σ H u v uu vv Q J ru rv q
  obtain ⟨ρ, objs, x, y, w, sr, rx, ry, e, fin⟩ := q
  change intD f x y = some w at e
  unfold intD at e
  split at e
  · rename_i i j
    obtain ⟨k, e1, rfl⟩ := Option.map_eq_some_iff.mp e
    obtain ⟨c, rfl⟩ := hf i j k e1
    simp only [Rep] at rx ry
    exact h pn z σ H u v uu vv Q J ru rv ⟨i, j, rx, ry, c, fin.int sr⟩
  · cases e
theorem op_addD : OpR X (binaryOp .Add) (r2 X.K T fun objs x y => addD objs x y) := by
  intro pn z σ H u v uu vv Q J ru rv h
  obtain ⟨ρ, objs, x, y, w, sr, rx, ry, e, fin⟩ := h
  have cat : ∀ {a b : List D}, lstOf objs x = some a → lstOf objs y = some b → a.length + b.length ≤ sizeLine → w = .n (a ++ b) → wpAny (model X.prog X.w) X.A (binaryOp .Add uu vv) (EP X pn σ Q) X.xe z := fun {a b} ha hb hz ew => by
    subst ew
    obtain ⟨p, us, e1, h1, q1⟩ := seqOf_lst sr.st ha rx
    obtain ⟨q, vs, e2, h2, q2⟩ := seqOf_lst sr.st hb ry
    exact OpR.fresh op_cat J ru rv ⟨p, q, us, vs, e1, e2, h1, h2, by rw [← q1.len, ← q2.len]; exact hz, fun a ha hk => fin.lst sr (q1.app q2) ha (hk a _ upd_same)⟩
  change addD objs x y = some w at e
  unfold addD at e
  split at e
  · cases e
    simp only [Rep] at rx ry
    exact op_add pn z σ H u v uu vv Q J ru rv ⟨_, _, rx, ry, fin.int sr⟩
  · rename_i a b
    split at e
    · rename_i hz
      cases e
      simp only [Rep] at rx ry
      obtain ⟨p, us, e1, h1, q1⟩ := rx
      obtain ⟨q, vs, e2, h2, q2⟩ := ry
      refine op_catA pn z σ H u v uu vv Q J ru rv ⟨p, q, us, vs, e1, e2, h1, h2, by rw [← q1.len, ← q2.len]; exact hz, fun c => ?_, fun _ c => ?_, fun _ _ a ha => fin.tup sr (q1.app q2) ha⟩
      · refine fin.v sr ?_
        subst c
        have l := q1.len
        have : a = [] := List.eq_nil_of_length_eq_zero l
        subst this
        simp only [Rep]
        exact ⟨q, vs, rfl, h2, q2⟩
      · refine fin.v sr ?_
        subst c
        have l := q2.len
        have : b = [] := List.eq_nil_of_length_eq_zero l
        subst this
        simp only [Rep, List.append_nil]
        exact ⟨p, us, rfl, h1, q1⟩
    · cases e
  · split at e
    · rename_i hz
      cases e
      simp only [Rep] at rx ry
      exact op_add_str pn z σ H u v uu vv Q J ru rv ⟨_, _, rx, ry, hz, fin.str sr⟩
    · cases e
  · split at e
    · rename_i hz
      cases e
      exact cat rfl rfl hz rfl
    · cases e
  · split at e
    · rename_i g
      split at e
      · rename_i hz
        cases e
        exact cat rfl (by simp only [lstOf, g]) hz rfl
      · cases e
    · cases e
  · split at e
    · rename_i g
      split at e
      · rename_i hz
        cases e
        exact cat (by simp only [lstOf, g]) rfl hz rfl
      · cases e
    · cases e
  · split at e
    · rename_i g g2
      split at e
      · rename_i hz
        cases e
        exact cat (by simp only [lstOf, g]) (by simp only [lstOf, g2]) hz rfl
      · cases e
    · cases e
  · cases e
theorem repK_ok {a : List D} {k : Int} (h : repK a k = true) : k < 2 ^ 62 ∧ -(2 ^ 62) < k ∧ a.length * k.toNat ≤ sizeLine := by
  simp only [repK, Bool.and_eq_true, decide_eq_true_eq] at h
  exact ⟨h.1.1, h.1.2, h.2⟩
theorem op_mulD : OpR X (binaryOp .Mult) (r2 X.K T fun objs x y => mulD objs x y) := by
  intro pn z σ H u v uu vv Q J ru rv h
  obtain ⟨ρ, objs, x, y, w, sr, rx, ry, e, fin⟩ := h
  have rep : ∀ {a : List D} {k : Int}, lstOf objs x = some a → y = .int k → repK a k = true → w = .n (repL k a) → wpAny (model X.prog X.w) X.A (binaryOp .Mult uu vv) (EP X pn σ Q) X.xe z := fun {a k} ha hb hz ew => by
    subst ew
    subst hb
    obtain ⟨z1, z2, z3⟩ := repK_ok hz
    obtain ⟨p, us, e1, h1, q1⟩ := seqOf_lst sr.st ha rx
    simp only [Rep] at ry
    exact OpR.fresh op_rep J ru rv ⟨p, k, us, e1, ry, h1, by omega, by omega, by rw [← q1.len]; exact z3, fun a ha hk => fin.lst sr (q1.rep k.toNat) ha (hk a _ upd_same)⟩
  change mulD objs x y = some w at e
  unfold mulD at e
  split at e
  · split at e
    · rename_i hz
      cases e
      simp only [Rep] at rx ry
      simp only [Bool.or_eq_true] at hz
      exact op_mul pn z σ H u v uu vv Q J ru rv ⟨_, _, rx, ry, hz.imp sm_ok sm_ok, fin.int sr⟩
    · cases e
  · rename_i a k
    split at e
    · rename_i hz
      cases e
      obtain ⟨z1, z2, z3⟩ := repK_ok hz
      simp only [Rep] at rx ry
      obtain ⟨p, us, e1, h1, q1⟩ := rx
      refine op_mulT pn z σ H u v uu vv Q J ru rv ⟨p, k, us, e1, ry, h1, z2, z1, by rw [← q1.len]; exact z3, fun c => ?_, fun a ha => fin.tup sr (q1.rep k.toNat) ha⟩
      refine fin.v sr ?_
      have q := q1.rep k.toNat
      rw [c] at q
      simp only [Rep]
      exact ⟨p, us, rfl, h1, q⟩
    · cases e
  · split at e
    · rename_i hz
      cases e
      exact rep rfl rfl hz rfl
    · cases e
  · split at e
    · rename_i g
      split at e
      · rename_i hz
        cases e
        exact rep (by simp only [lstOf, g]) rfl hz rfl
      · cases e
    · cases e
  · cases e
theorem op_bin (o : Bop) : OpR X (binaryOp (opOf o)) (r2 X.K T fun objs x y => binop objs o x y) := by
  cases o with
  | add => exact op_addD
  | sub => exact op_intD (C := fun _ _ => True) (g := fun i j => i - j) (fun pn z σ H u v uu vv Q J ru rv ⟨i, j, h1, h2, _, q⟩ => op_sub pn z σ H u v uu vv Q J ru rv ⟨i, j, h1, h2, q⟩) fun i j k e => ⟨trivial, (Option.some.inj e).symm⟩
  | mul => exact op_mulD
  | fdiv =>
    exact op_intD op_fdiv fun i j k e => by
      split at e
      · rename_i c
        simp only [Bool.and_eq_true, decide_eq_true_eq] at c
        exact ⟨c, (Option.some.inj e).symm⟩
      · cases e
  | mod =>
    exact op_intD op_mod fun i j k e => by
      split at e
      · rename_i c
        exact ⟨c, (Option.some.inj e).symm⟩
      · cases e
  | pow =>
    exact op_intD op_pow fun i j k e => by
      split at e
      · rename_i c
        simp only [Bool.and_eq_true, decide_eq_true_eq] at c
        obtain ⟨⟨c1, c2⟩, c3⟩ := c
        have := sm_ok c3
        exact ⟨⟨c1, by omega, by omega⟩, (Option.some.inj e).symm⟩
      · cases e
end
end Ev
namespace Ev
open PySem L2
section
variable {X : Cx} {T : List (Addr × Str)}
/-! ### comparisons -/
def copOf : Cop → CmpOp
  | .eq => .Eq | .ne => .NotEq | .lt => .Lt | .le => .LtE | .gt => .Gt | .ge => .GtE | .is => .Is | .isn => .IsNot | .inn => .In | .nin => .NotIn
abbrev r2b (K : PySem.W.Frag) (T : List (Addr × Str)) (f : List Ob → D → D → Option Bool) : R2 := r2 K T fun objs x y => (f objs x y).map fun b => .v (.bl b)
theorem op_ordI {op : CmpOp} {f : Int → Int → Bool} (h : OpR X (compareOp op) (rI0 fun i j => .bl (f i j))) : OpR X (compareOp op) (r2b X.K T fun _ x y => ordI f x y) := by
  intro pn z σ H u v uu vv Q J ru rv q
  obtain ⟨ρ, objs, x, y, w, sr, rx, ry, e, fin⟩ := q
  obtain ⟨b, e1, rfl⟩ := Option.map_eq_some_iff.mp e
  change ordI f x y = some b at e1
  unfold ordI at e1
  split at e1
  · rename_i i j
    cases e1
    simp only [Rep] at rx ry
    exact h pn z σ H u v uu vv Q J ru rv ⟨i, j, rx, ry, fin.bl sr⟩
  · cases e1
theorem op_ltD (hu : X.A.units < cLine) : OpR X (compareOp .Lt) (r2b X.K T fun _ x y => ltOp x y) := by
  intro pn z σ H u v uu vv Q J ru rv q
  obtain ⟨ρ, objs, x, y, w, sr, rx, ry, e, fin⟩ := q
  obtain ⟨b, e1, rfl⟩ := Option.map_eq_some_iff.mp e
  change ltOp x y = some b at e1
  unfold ltOp at e1
  split at e1
  · rename_i i j
    cases e1
    simp only [Rep] at rx ry
    exact op_lt pn z σ H u v uu vv Q J ru rv ⟨i, j, rx, ry, fin.bl sr⟩
  · split at e1
    · rename_i g1 g2
      cases e1
      simp only [Rep] at rx ry
      obtain ⟨p, us, e1, h1, q1⟩ := rx
      obtain ⟨q, vs, e2, h2, q2⟩ := ry
      rw [ints_of g1 q1] at h1
      rw [ints_of g2 q2] at h2
      exact op_ltT hu pn z σ H u v uu vv Q J ru rv ⟨p, q, _, _, e1, e2, h1, h2, fin.bl sr⟩
    · cases e1
  · cases e1
theorem eqd_ok {objs : List Ob} {x y : D} {b : Bool} (h : eqdG objs x y = some b) : ∃ p q, D.toP objs fuelP x = some p ∧ D.toP objs fuelP y = some q ∧ SeqAt.shaped p = true ∧ SeqAt.shaped q = true ∧ b = PyData.eqv p q := by
  unfold eqdG at h
  split at h
  · rename_i p q h1 h2
    split at h
    · rename_i g
      simp only [Bool.and_eq_true] at g
      cases h
      exact ⟨p, q, h1, h2, g.1, g.2, rfl⟩
    · cases h
  · cases h
theorem eqd_cases {objs : List Ob} {x y : D} {b : Bool} (h : eqd objs x y = some b) : (∃ i j, x = .str i ∧ y = .str j ∧ b = (i == j)) ∨ eqdG objs x y = some b := by
  unfold eqd at h
  split at h
  · cases h
    exact .inl ⟨_, _, rfl, rfl, rfl⟩
  · exact .inr h
theorem op_eqD' (hu : X.A.units + 64 < cLine) : OpR X (compareOp .Eq) (r2b X.K T fun objs x y => eqd objs x y) := by
  intro pn z σ H u v uu vv Q J ru rv q
  obtain ⟨ρ, objs, x, y, w, sr, rx, ry, e, fin⟩ := q
  obtain ⟨b, e1, rfl⟩ := Option.map_eq_some_iff.mp e
  rcases eqd_cases e1 with ⟨i, j, rfl, rfl, rfl⟩ | e1
  · simp only [Rep] at rx ry
    subst rx ry
    exact op_eq pn z σ H _ _ _ _ Q J ru rv ⟨rfl, by rw [dec_str]; exact fin.bl sr⟩
  obtain ⟨p, q, h1, h2, h3, h4, rfl⟩ := eqd_ok e1
  exact op_eqD hu pn z σ H u v uu vv Q J ru rv ⟨p, q, dp_of sr.st _ _ _ _ h1 rx, dp_of sr.st _ _ _ _ h2 ry, h3, h4, fin.bl sr⟩
theorem op_neD' (hu : X.A.units + 64 < cLine) : OpR X (compareOp .NotEq) (r2b X.K T fun objs x y => (eqd objs x y).map (!·)) := by
  intro pn z σ H u v uu vv Q J ru rv q
  obtain ⟨ρ, objs, x, y, w, sr, rx, ry, e, fin⟩ := q
  obtain ⟨b0, e0, rfl⟩ := Option.map_eq_some_iff.mp e
  obtain ⟨b, e1, rfl⟩ := Option.map_eq_some_iff.mp e0
  rcases eqd_cases e1 with ⟨i, j, rfl, rfl, rfl⟩ | e1
  · simp only [Rep] at rx ry
    subst rx ry
    exact op_ne pn z σ H _ _ _ _ Q J ru rv ⟨rfl, by rw [dec_str]; exact fin.bl sr⟩
  obtain ⟨p, q, h1, h2, h3, h4, rfl⟩ := eqd_ok e1
  exact op_neD hu pn z σ H u v uu vv Q J ru rv ⟨p, q, dp_of sr.st _ _ _ _ h1 rx, dp_of sr.st _ _ _ _ h2 ry, h3, h4, fin.bl sr⟩
/-- is None; is of bools -/
theorem isOp_ok {K : PySem.W.Frag} {ρ α : List Addr} {H : Hp} {x y : D} {u v : V} {b : Bool} (h : isOp x y = some b) (rx : Rep K ρ α H x u) (ry : Rep K ρ α H y v) : (v = .non ∧ b = decide (u = .non)) ∨ ∃ c d, u = .bl c ∧ v = .bl d ∧ b = decide (c = d) := by
  unfold isOp at h
  split at h
  · simp only [Rep] at ry
    cases h
    refine .inl ⟨ry, ?_⟩
    cases x <;> simp only [Rep] at rx
    · subst rx; rfl
    · subst rx; rfl
    · subst rx; rfl
    · subst rx; rfl
    · obtain ⟨a, vs, rfl, _⟩ := rx; rfl
    · obtain ⟨a, vs, rfl, _⟩ := rx; rfl
    · obtain ⟨a, vs, rfl, _⟩ := rx; rfl
    · obtain ⟨a, rfl, _⟩ := rx; rfl
  · rename_i c d
    cases h
    simp only [Rep] at rx ry
    exact .inr ⟨c, d, rx, ry, by cases c <;> cases d <;> rfl⟩
  · cases h
theorem op_isD : OpR X (compareOp .Is) (r2b X.K T fun _ x y => isOp x y) := by
  intro pn z σ H u v uu vv Q J ru rv q
  obtain ⟨ρ, objs, x, y, w, sr, rx, ry, e, fin⟩ := q
  obtain ⟨b, e1, rfl⟩ := Option.map_eq_some_iff.mp e
  rcases isOp_ok e1 rx ry with ⟨h1, rfl⟩ | ⟨c, d, h1, h2, rfl⟩
  · exact op_isN pn z σ H u v uu vv Q J ru rv ⟨h1, fin.bl sr⟩
  · exact op_is_bl pn z σ H u v uu vv Q J ru rv ⟨c, d, h1, h2, fin.bl sr⟩
theorem op_isnD : OpR X (compareOp .IsNot) (r2b X.K T fun _ x y => (isOp x y).map (!·)) := by
  intro pn z σ H u v uu vv Q J ru rv q
  obtain ⟨ρ, objs, x, y, w, sr, rx, ry, e, fin⟩ := q
  obtain ⟨b0, e0, rfl⟩ := Option.map_eq_some_iff.mp e
  obtain ⟨b, e1, rfl⟩ := Option.map_eq_some_iff.mp e0
  rcases isOp_ok e1 rx ry with ⟨h1, rfl⟩ | ⟨c, d, h1, h2, rfl⟩
  · exact op_notN pn z σ H u v uu vv Q J ru rv ⟨h1, fin.bl sr⟩
  · exact op_isnot_bl pn z σ H u v uu vv Q J ru rv ⟨c, d, h1, h2, fin.bl sr⟩
theorem flat_of {K : PySem.W.Frag} {ρ α : List Addr} {H : Hp} {x : D} {u : V} (h : Ev.scal x = true) (rx : Rep K ρ α H x u) : flatV u = true := by
  cases x <;> simp only [Ev.scal, Bool.false_eq_true] at h <;> simp only [Rep] at rx <;> subst rx <;> rfl
theorem flats_of {K : PySem.W.Frag} {ρ α : List Addr} {H : Hp} : ∀ {ds : List D} {vs : List V}, ds.all Ev.scal = true → Reps K ρ α H ds vs → vs.all flatV = true
  | [], _, _, r => by simp only [Reps] at r; subst r; rfl
  | d :: ds, _, h, r => by
    obtain ⟨v, q, rfl, r1, r2⟩ := r.inv
    simp only [List.all_cons, Bool.and_eq_true] at h ⊢
    exact ⟨flat_of h.1 r1, flats_of h.2 r2⟩
theorem eqS_of {K : PySem.W.Frag} {ρ α : List Addr} {H : Hp} {x y : D} {u v : V} (hx : Ev.scal x = true) (hy : Ev.scal y = true) (rx : Rep K ρ α H x u) (ry : Rep K ρ α H y v) : eqV u v = eqS x y := by
  cases x <;> simp only [Ev.scal, Bool.false_eq_true] at hx <;> simp only [Rep] at rx <;> subst rx <;>
    (cases y <;> simp only [Ev.scal, Bool.false_eq_true] at hy <;> simp only [Rep] at ry <;> subst ry <;> rfl)
theorem any_of {K : PySem.W.Frag} {ρ α : List Addr} {H : Hp} {x : D} {u : V} (hx : Ev.scal x = true) (rx : Rep K ρ α H x u) : ∀ {ds : List D} {vs : List V}, ds.all Ev.scal = true → Reps K ρ α H ds vs → inV u vs = ds.any fun d => eqS d x
  | [], _, _, r => by simp only [Reps] at r; subst r; rfl
  | d :: ds, _, h, r => by
    obtain ⟨v, q, rfl, r1, r2⟩ := r.inv
    simp only [List.all_cons, Bool.and_eq_true] at h
    have := any_of hx rx h.2 r2
    simp only [inV, List.any_cons] at this ⊢
    rw [this, eqS_of h.1 hx r1 rx]
theorem inOp_ok {K : PySem.W.Frag} {ρ : List Addr} {H : Hp} {objs : List Ob} {x y : D} {u v : V} {b : Bool} (s : StRel K ρ ρ H objs) (h : inOp objs x y = some b) (rx : Rep K ρ ρ H x u) (ry : Rep K ρ ρ H y v) :
    (∃ p xs, v = .ref p ∧ (SqL K H p xs ∨ SqT K H p xs) ∧ flatV u = true ∧ xs.all flatV = true ∧ b = inV u xs) ∨ ∃ d ds, Dp K H u d ∧ Dp K H v (.list ds) ∧ SeqAt.shaped d = true ∧ SeqAt.shaped (.list ds) = true ∧ b = ds.any fun z => PyData.eqv z d := by
  unfold inOp at h
  split at h
  · rename_i ds hs
    obtain ⟨p, vs, rfl, h1, h2⟩ := seqOf_any s hs ry
    split at h
    · rename_i c
      simp only [Bool.and_eq_true] at c
      cases h
      exact .inl ⟨p, vs, rfl, h1, flat_of c.1 rx, flats_of c.2 h2, (any_of c.1 rx c.2 h2).symm⟩
    · split at h
      · rename_i d es e1 e2
        split at h
        · rename_i c
          simp only [Bool.and_eq_true] at c
          cases h
          exact .inr ⟨d, es, dp_of s _ _ _ _ e1 rx, dp_of s _ _ _ _ e2 ry, c.1, c.2, rfl⟩
        · cases h
      · cases h
  · cases h
theorem op_inD' (hu : X.A.units + 65 < cLine) : OpR X (compareOp .In) (r2b X.K T fun objs x y => inOp objs x y) := by
  intro pn z σ H u v uu vv Q J ru rv q
  obtain ⟨ρ, objs, x, y, w, sr, rx, ry, e, fin⟩ := q
  obtain ⟨b, e1, rfl⟩ := Option.map_eq_some_iff.mp e
  rcases inOp_ok sr.st e1 rx ry with ⟨p, xs, h1, h2, h3, h4, rfl⟩ | ⟨d, ds, h1, h2, h3, h4, rfl⟩
  · exact op_in_seq pn z σ H u v uu vv Q J ru rv ⟨p, xs, h1, h2, h3, h4, fin.bl sr⟩
  · exact op_inD hu pn z σ H u v uu vv Q J ru rv ⟨d, ds, h1, h2, h3, h4, fin.bl sr⟩
theorem op_ninD' (hu : X.A.units + 65 < cLine) : OpR X (compareOp .NotIn) (r2b X.K T fun objs x y => (inOp objs x y).map (!·)) := by
  intro pn z σ H u v uu vv Q J ru rv q
  obtain ⟨ρ, objs, x, y, w, sr, rx, ry, e, fin⟩ := q
  obtain ⟨b0, e0, rfl⟩ := Option.map_eq_some_iff.mp e
  obtain ⟨b, e1, rfl⟩ := Option.map_eq_some_iff.mp e0
  rcases inOp_ok sr.st e1 rx ry with ⟨p, xs, h1, h2, h3, h4, rfl⟩ | ⟨d, ds, h1, h2, h3, h4, rfl⟩
  · exact op_notIn_seq pn z σ H u v uu vv Q J ru rv ⟨p, xs, h1, h2, h3, h4, fin.bl sr⟩
  · exact op_notInD hu pn z σ H u v uu vv Q J ru rv ⟨d, ds, h1, h2, h3, h4, fin.bl sr⟩
theorem op_cmp (hu : X.A.units + 65 < cLine) (o : Cop) : OpR X (compareOp (copOf o)) (r2b X.K T fun objs x y => cmp objs o x y) := by
  cases o with
  | eq => exact op_eqD' (by omega)
  | ne => exact op_neD' (by omega)
  | lt => exact op_ltD (by omega)
  | le => exact op_ordI op_le
  | gt => exact op_ordI op_gt
  | ge => exact op_ordI op_ge
  | is => exact op_isD
  | isn => exact op_isnD
  | inn => exact op_inD' hu
  | nin => exact op_ninD' hu
/-! ### truth -/
theorem truth_ok {K : PySem.W.Frag} {ρ : List Addr} {H : Hp} {objs : List Ob} {x : D} {u : V} {b : Bool} (s : StRel K ρ ρ H objs) (h : truth objs x = some b) (rx : Rep K ρ ρ H x u) : TruV K u H b := by
  have em : ∀ {ds : List D} {vs : List V}, Reps K ρ ρ H ds vs → (!ds.isEmpty) = !vs.isEmpty := fun {ds vs} r => by
    have l := r.len
    cases ds <;> cases vs <;> first | rfl | simp at l
  cases x with
  | non => simp only [truth, Option.some.injEq] at h; simp only [Rep] at rx; subst rx; exact h.symm
  | bl a => simp only [truth, Option.some.injEq] at h; simp only [Rep] at rx; subst rx; exact h.symm
  | int a => simp only [truth, Option.some.injEq] at h; simp only [Rep] at rx; subst rx; exact h.symm
  | str a =>
    simp only [truth] at h
    simp only [Rep] at rx
    subst rx
    split at h
    · rename_i c
      cases h
      exact ⟨c, rfl⟩
    · cases h
  | tup ds =>
    simp only [truth, Option.some.injEq] at h
    simp only [Rep] at rx
    obtain ⟨a, vs, rfl, h1, h2⟩ := rx
    exact .inr (.inl ⟨vs, h1, by rw [← h, em h2]⟩)
  | lst ds =>
    simp only [truth, Option.some.injEq] at h
    simp only [Rep] at rx
    obtain ⟨a, vs, rfl, h1, _, h2⟩ := rx
    exact .inl ⟨vs, SqL.of h1, by rw [← h, em h2]⟩
  | scr ds =>
    simp only [truth, Option.some.injEq] at h
    simp only [Rep] at rx
    obtain ⟨a, vs, rfl, h1, h2⟩ := rx
    exact .inl ⟨vs, h1.sq, by rw [← h, em h2]⟩
  | ref n =>
    simp only [Rep] at rx
    obtain ⟨a, rfl, ha⟩ := rx
    obtain ⟨ds, vs, e1, e2, e3⟩ := s.ob ha
    simp only [truth, e1, Option.some.injEq] at h
    exact .inl ⟨vs, SqL.of e2, by rw [← h, em e3]⟩
end
end Ev

set_option Elab.async false
set_option linter.all false
set_option maxRecDepth 100000
/-! Ev5: subscripts, built-in functions, methods -/
namespace Ev
open PySem L2
section
variable {X : Cx} {T : List (Addr × Str)} {K : PySem.W.Frag} {ρ α : List Addr} {H : Hp} {objs : List Ob}
theorem atI_rep {ds : List D} {vs : List V} {k : Int} {d : D} (r : Reps K ρ α H ds vs) (h : L2.atI ds k = some d) : ∃ v, L2.atI vs k = some v ∧ Rep K ρ α H d v := by
  unfold L2.atI at *
  rw [← r.len]
  cases e : L2.ixN ds.length k with
  | none => rw [e] at h; cases h
  | some j =>
    rw [e] at h
    exact r.get (i := j) h
theorem ix_ok : IxR X (r2 X.K T fun objs x y => (idx objs x y).map Ev.X.v) := by
  intro va sl pn z σ H u v uu vv Q J ru rv h pl
  obtain ⟨ρ, objs, x, y, w, sr, rx, ry, e, fin⟩ := h
  obtain ⟨d, e1, rfl⟩ := Option.map_eq_some_iff.mp e
  unfold idx at e1
  split at e1
  · split at e1
    · rename_i k _ _ hs
      obtain ⟨p, vs, rfl, h1, h2⟩ := seqOf_any sr.st hs rx
      obtain ⟨q, e2, r2⟩ := atI_rep h2 e1
      simp only [Rep] at ry
      refine ix_seq va sl pn z σ H _ v uu vv Q J ru rv ?_ pl
      rcases h1 with h1 | h1
      · exact .inl ⟨p, vs, k, q, rfl, ry, h1, e2, fin.v sr r2⟩
      · exact .inr (.inl ⟨p, vs, k, q, rfl, ry, h1, e2, fin.v sr r2⟩)
    · cases e1
  · cases e1
theorem cut_rep {ds : List D} {vs : List V} (r : Reps K ρ α H ds vs) (l h : Option Int) : Reps K ρ α H (cut ds l h) (cutV vs l h) := by
  unfold cut cutV
  rw [← r.len]
  exact (r.drop _).take _
def rSl (K : PySem.W.Frag) (T : List (Addr × Str)) : V → Option Int → Option Int → Hp → VK → Prop := fun u l h H Q => ∃ ρ objs x z, Sr K T ρ H objs ∧ Rep K ρ ρ H x u ∧ slice objs x l h = some z ∧ Fin K T ρ H objs z Q ∧ ∀ a o, H a = some o → K.lookup a = none
theorem sl_ok : SlR X (fun u l h H Q => ∃ ρ objs x z, Sr X.K T ρ H objs ∧ Rep X.K ρ ρ H x u ∧ slice objs x l h = some z ∧ Fin X.K T ρ H objs z Q) := by
  intro pn z σ H u uu vl vu lo hi sl Q J ru hs pl pu q
  obtain ⟨ρ, objs, x, w, sr, rx, e, fin⟩ := q
  have fr : ∀ {Q' : VK} {T' : String} {id : String}, wpAny (model X.prog X.w) X.A (getItem uu (.ref sl)) (EP X pn σ fun w H' => (∀ a o, H' a = some o → X.K.lookup a = none) → Q' w H') X.xe z → wpAny (model X.prog X.w) X.A (getItem uu (.ref sl)) (EP X pn σ Q') X.xe z := fun h =>
    thn h fun _ _ ⟨z, H', J', r', q'⟩ => ⟨z, H', J', r', q' fun a o e => fresh_K J' e⟩
  have lst : ∀ {p : Addr} {ds : List D} {vs : List V}, u = .ref p → SqL X.K H p vs → Reps X.K ρ ρ H ds vs → w = .n (cut ds lo hi) → ∃ T id, typeLookup (.type T) "__getitem__" = pure (some (.builtin id)) ∧ z.TypeIs uu T ∧ wpAny (model X.prog X.w) X.A (getItem uu (.ref sl)) (EP X pn σ Q) X.xe z := fun {p ds vs} e1 h1 r1 e2 => by
    subst e2
    obtain ⟨T', id, a1, a2, a3⟩ := sl_list pn z σ H u uu vl vu lo hi sl (fun w H' => (∀ a o, H' a = some o → X.K.lookup a = none) → Q w H') J ru hs pl pu ⟨p, vs, e1, h1, fun a ha hk => fin.lst sr (cut_rep r1 lo hi) ha (hk a _ upd_same)⟩
    exact ⟨T', id, a1, a2, fr (T' := T') (id := id) a3⟩
  unfold slice at e
  split at e
  · rename_i ds
    cases e
    simp only [Rep] at rx
    obtain ⟨p, vs, e1, h1, r1⟩ := rx
    refine sl_tupA pn z σ H u uu vl vu lo hi sl Q J ru hs pl pu ⟨p, vs, e1, h1, fun c => ?_, fun _ a ha => fin.tup sr (cut_rep r1 lo hi) ha⟩
    refine fin.v sr ?_
    have q := cut_rep r1 lo hi
    have e3 : cutV vs lo hi = vs := by
      unfold cutV
      rw [c.1, c.2]
      simp
    rw [e3] at q
    simp only [Rep]
    exact ⟨p, vs, rfl, h1, q⟩
  · rename_i ds
    cases e
    simp only [Rep] at rx
    obtain ⟨p, vs, e1, h1, r1⟩ := rx
    exact lst e1 h1.sq r1 rfl
  · split at e
    · rename_i hs2
      cases e
      obtain ⟨p, vs, e1, h1, r1⟩ := seqOf_lst sr.st hs2 rx
      exact lst e1 (SqL.of h1) r1 rfl
    · cases e
/-! ### functions -/
def rC (K : PySem.W.Frag) (T : List (Addr × Str)) (f : List Ob → List D → Option Ev.X) : List V → Hp → VK → Prop := fun us H Q => ∃ ρ objs ds z, Sr K T ρ H objs ∧ Reps K ρ ρ H ds us ∧ f objs ds = some z ∧ Fin K T ρ H objs z Q
theorem CallR.fresh {f : Value} {r : List V → Hp → VK → Prop} (h : CallR X f r) {pins : List (Addr × Obj)} {s : Shared} {σ : L2.St} {H : Hp} {xs : List V} {us : List Value} {Q : VK} (J : Inv X pins σ H s) (rx : Vals xs us)
    (q : r xs H fun w H' => (∀ a o, H' a = some o → X.K.lookup a = none) → Q w H') : wpAny (model X.prog X.w) X.A (call f us) (EP X pins σ Q) X.xe s :=
  thn (h pins s σ H xs us _ J rx q) fun w s' ⟨z, H', J', r', q'⟩ => ⟨z, H', J', r', q' fun a o e => fresh_K J' e⟩
theorem reps1 {ds : List D} {us : List V} {d : D} (r : Reps K ρ α H [d] us) : ∃ u, us = [u] ∧ Rep K ρ α H d u := by
  obtain ⟨v, q, rfl, r1, r2⟩ := r.inv
  simp only [Reps] at r2
  subst r2
  exact ⟨v, rfl, r1⟩
theorem reps2 {us : List V} {d e : D} (r : Reps K ρ α H [d, e] us) : ∃ u v, us = [u, v] ∧ Rep K ρ α H d u ∧ Rep K ρ α H e v := by
  obtain ⟨v, q, rfl, r1, r2⟩ := r.inv
  obtain ⟨w, rfl, r3⟩ := reps1 (ds := []) r2
  exact ⟨v, w, rfl, r1, r3⟩
theorem cb_len : CallR X (.builtin "len") (rC X.K T fun objs ds => bi objs .len ds) := by
  intro pn z σ H us vs Q J r h
  obtain ⟨ρ, objs, ds, w, sr, rx, e, fin⟩ := h
  simp only [bi] at e
  split at e
  · split at e
    · rename_i c
      cases e
      obtain ⟨u, rfl, ru⟩ := reps1 (ds := []) rx
      simp only [Rep] at ru
      subst ru
      exact call_len pn z σ H _ vs Q J r ⟨_, _, rfl, ⟨c, rfl⟩, fin.int sr⟩
    · cases e
  · rename_i d _
    obtain ⟨es, e1, rfl⟩ := Option.map_eq_some_iff.mp e
    obtain ⟨u, rfl, ru⟩ := reps1 (ds := []) rx
    obtain ⟨p, ws, rfl, h1, r1⟩ := seqOf_any sr.st e1 ru
    refine call_len pn z σ H _ vs Q J r ⟨_, ws.length, rfl, ?_, by rw [← r1.len]; exact fin.int sr⟩
    rcases h1 with h1 | h1
    · exact .inl ⟨ws, h1, rfl⟩
    · exact .inr ⟨ws, h1, rfl⟩
  · cases e
theorem cb_int : CallR X (.type "int") (rC X.K T fun objs ds => bi objs .int ds) := by
  intro pn z σ H us vs Q J r h
  obtain ⟨ρ, objs, ds, w, sr, rx, e, fin⟩ := h
  simp only [bi] at e
  split at e
  · cases e
    obtain ⟨u, rfl, ru⟩ := reps1 (ds := []) rx
    simp only [Rep] at ru
    subst ru
    exact call_int1 pn z σ H _ vs Q J r (.inl ⟨_, rfl, fin.int sr⟩)
  · cases e
    obtain ⟨u, rfl, ru⟩ := reps1 (ds := []) rx
    simp only [Rep] at ru
    subst ru
    exact call_int1 pn z σ H _ vs Q J r (.inr ⟨_, rfl, fin.int sr⟩)
  · cases e
theorem cb_repr (hg : X.A.guards = some []) (hu : X.A.units + 100 < cLine) : CallR X (.builtin "repr") (rC X.K T fun objs ds => bi objs .repr ds) := by
  intro pn z σ H us vs Q J r h
  obtain ⟨ρ, objs, ds, w, sr, rx, e, fin⟩ := h
  simp only [bi] at e
  split at e
  · rename_i d
    split at e
    · rename_i p hp
      split at e
      · rename_i c
        cases e
        simp only [Bool.and_eq_true, decide_eq_true_eq, Bool.not_eq_true'] at c
        obtain ⟨⟨⟨c0, c1⟩, c2⟩, c3⟩ := c
        obtain ⟨u, rfl, ru⟩ := reps1 (ds := []) rx
        have isr : ∃ a, u = .ref a := by
          cases d <;> simp only [Ev.scal, Bool.true_eq_false] at c0 <;> simp only [Rep] at ru
          · obtain ⟨a, vs, h, _⟩ := ru; exact ⟨a, h⟩
          · obtain ⟨a, vs, h, _⟩ := ru; exact ⟨a, h⟩
          · obtain ⟨a, vs, h, _⟩ := ru; exact ⟨a, h⟩
          · obtain ⟨a, h, _⟩ := ru; exact ⟨a, h⟩
        obtain ⟨a, rfl⟩ := isr
        obtain ⟨v, rfl, rv⟩ := vals1 r
        cases rv
        obtain ⟨as, rd⟩ := Dp.reads J p _ _ (dp_of sr.st _ _ _ _ hp ru) rfl
        have nd := noDict _ _ _ hp
        refine repr_of_reads' rd c1 (PyData.noDict_hsm nd) hg (by omega) (fun _ _ e => e) (fun h' t tk kp => ?_) c2
        exact ⟨.str p.shown, H, J.kept kp, ⟨t, rfl⟩, fin.str sr⟩
      · cases e
    · cases e
  · cases e
theorem ty_of {d : D} {u : V} (s : StRel K ρ ρ H objs) (r : Rep K ρ ρ H d u) : ∃ t : String, TyX K H u (.type t) ∧ t = (match d with | .non => "NoneType" | .bl _ => "bool" | .int _ => "int" | .str _ => "str" | .tup _ => "tuple" | _ => "list") := by
  cases d with
  | non => simp only [Rep] at r; subst r; exact ⟨_, .base .non, rfl⟩
  | bl _ => simp only [Rep] at r; subst r; exact ⟨_, .base (.bl _), rfl⟩
  | int _ => simp only [Rep] at r; subst r; exact ⟨_, .base (.int _), rfl⟩
  | str _ => simp only [Rep] at r; subst r; exact ⟨_, .base (.str _), rfl⟩
  | tup ds =>
    simp only [Rep] at r
    obtain ⟨a, vs, rfl, h1, _⟩ := r
    refine ⟨"tuple", ?_, rfl⟩
    rcases h1 with (h1 | ⟨o, h1⟩) | ⟨o, _, _, h1, h2, _⟩
    · exact .base (.tup h1)
    · exact .fTuple h1
    · exact .kTuple h1 h2
  | lst ds =>
    simp only [Rep] at r
    obtain ⟨a, vs, rfl, h1, _⟩ := r
    exact ⟨"list", .base (.lst h1), rfl⟩
  | scr ds =>
    simp only [Rep] at r
    obtain ⟨a, vs, rfl, h1, _⟩ := r
    refine ⟨"list", ?_, rfl⟩
    rcases h1 with ⟨o, h1⟩ | ⟨o, _, _, h1, h2, _⟩
    · exact .base (.frz h1)
    · exact .kList h1 h2
  | ref n =>
    simp only [Rep] at r
    obtain ⟨a, rfl, ha⟩ := r
    obtain ⟨ds, vs, _, e2, _⟩ := s.ob ha
    exact ⟨"list", .base (.lst e2), rfl⟩
/-- isinstance(x, t): the type's name, the answers -/
def isK : Bi → Option String
  | .isI => some "int" | .isB => some "bool" | .isT => some "tuple" | .isL => some "list" | _ => none
theorem cb_isinst {b : Bi} {t : String} (hb : isK b = some t) : CallR X (.builtin "isinstance") (fun us H Q => ∃ ρ objs d u z, us = [u, .ty t] ∧ Sr X.K T ρ H objs ∧ Rep X.K ρ ρ H d u ∧ bi objs b [d] = some z ∧ Fin X.K T ρ H objs z Q) := by
  intro pn z σ H us vs Q J r h
  obtain ⟨ρ, objs, d, u, w, rfl, sr, ru, e, fin⟩ := h
  obtain ⟨t', ty, et⟩ := ty_of sr.st ru
  refine call_isi pn z σ H _ vs Q J r ⟨u, .ty t, .type t', .type t, ?_, rfl, .ty t, ty, ?_, ?_⟩
  · exact (match d, b with
      | .non, _ => false
      | .bl _, .isI => true | .bl _, .isB => true | .bl _, _ => false
      | .int _, .isI => true | .int _, _ => false
      | .str _, _ => false
      | .tup _, .isT => true | .tup _, _ => false
      | .lst _, .isL => true | .lst _, _ => false
      | .scr _, .isL => true | .scr _, _ => false
      | .ref _, .isL => true | .ref _, _ => false)
  · subst et
    cases b <;> simp only [isK, Option.some.injEq, reduceCtorEq] at hb <;> subst hb <;> cases d <;> rfl
  · cases b <;> simp only [isK, Option.some.injEq, reduceCtorEq] at hb <;> subst hb <;> cases d <;> simp only [bi, Option.some.injEq] at e <;> subst e <;> exact fin.bl sr
theorem cb_max2 (hc : X.calm = true) : CallR X (.builtin "max") (rC X.K T fun objs ds => bi objs .max2 ds) := by
  intro pn z σ H us vs Q J r h
  obtain ⟨ρ, objs, ds, w, sr, rx, e, fin⟩ := h
  simp only [bi] at e
  split at e
  · rename_i i j
    cases e
    obtain ⟨u, v, rfl, ru, rv⟩ := reps2 rx
    simp only [Rep] at ru rv
    subst ru
    subst rv
    have q : (if j > i then j else i) = max i j := by
      by_cases c : j > i
      · rw [if_pos c]; omega
      · rw [if_neg c]; omega
    exact call_max2 hc pn z σ H _ vs Q J r ⟨i, j, rfl, by rw [q]; exact fin.int sr⟩
  · cases e
theorem cb_min2 (hc : X.calm = true) : CallR X (.builtin "min") (rC X.K T fun objs ds => bi objs .min2 ds) := by
  intro pn z σ H us vs Q J r h
  obtain ⟨ρ, objs, ds, w, sr, rx, e, fin⟩ := h
  simp only [bi] at e
  split at e
  · rename_i i j
    cases e
    obtain ⟨u, v, rfl, ru, rv⟩ := reps2 rx
    simp only [Rep] at ru rv
    subst ru
    subst rv
    have q : (if j < i then j else i) = min i j := by
      by_cases c : j < i
      · rw [if_pos c]; omega
      · rw [if_neg c]; omega
    exact call_min2 hc pn z σ H _ vs Q J r ⟨i, j, rfl, by rw [q]; exact fin.int sr⟩
  · cases e
theorem cb_abs : CallR X (.builtin "abs") (rC X.K T fun objs ds => bi objs .abs ds) := by
  intro pn z σ H us vs Q J r h
  obtain ⟨ρ, objs, ds, w, sr, rx, e, fin⟩ := h
  simp only [bi] at e
  split at e
  · cases e
    obtain ⟨u, rfl, ru⟩ := reps1 (ds := []) rx
    simp only [Rep] at ru
    subst ru
    exact call_abs pn z σ H _ vs Q J r ⟨_, rfl, fin.int sr⟩
  · cases e
theorem cb_gcd : CallR X (.builtin "math.gcd") (rC X.K T fun objs ds => bi objs .gcd ds) := by
  intro pn z σ H us vs Q J r h
  obtain ⟨ρ, objs, ds, w, sr, rx, e, fin⟩ := h
  simp only [bi] at e
  split at e
  · rename_i i j
    cases e
    obtain ⟨u, v, rfl, ru, rv⟩ := reps2 rx
    simp only [Rep] at ru rv
    subst ru
    subst rv
    exact cr_gcd pn z σ H _ vs Q J r ⟨i, j, rfl, fin.int sr⟩
  · cases e
theorem cb_list : CallR X (.type "list") (rC X.K T fun objs ds => bi objs .list ds) := by
  intro pn z σ H us vs Q J r h
  obtain ⟨ρ, objs, ds, w, sr, rx, e, fin⟩ := h
  simp only [bi] at e
  split at e
  · obtain ⟨es, e1, rfl⟩ := Option.map_eq_some_iff.mp e
    obtain ⟨u, rfl, ru⟩ := reps1 (ds := []) rx
    obtain ⟨p, ws, rfl, h1, r1⟩ := seqOf_any sr.st e1 ru
    exact CallR.fresh call_list_of J r ⟨p, ws, rfl, h1, fun a ha hk => fin.lst sr r1 ha (hk a _ upd_same)⟩
  · cases e
theorem cb_tuple : CallR X (.type "tuple") (rC X.K T fun objs ds => bi objs .tuple ds) := by
  intro pn z σ H us vs Q J r h
  obtain ⟨ρ, objs, ds, w, sr, rx, e, fin⟩ := h
  simp only [bi] at e
  split at e
  · obtain ⟨es, e1, rfl⟩ := Option.map_eq_some_iff.mp e
    obtain ⟨u, rfl, ru⟩ := reps1 (ds := []) rx
    obtain ⟨p, ws, rfl, h1, r1⟩ := seqOf_any sr.st e1 ru
    refine call_tuple_of pn z σ H _ vs Q J r ⟨p, ws, rfl, ?_⟩
    rcases h1 with h1 | h1
    · exact .inl ⟨h1, fun a ha => fin.tup sr r1 ha⟩
    · exact .inr ⟨h1, fin.v sr (by simp only [Rep]; exact ⟨p, ws, rfl, h1, r1⟩)⟩
  · cases e
theorem sum_tup {prog : Program} {w : World} {A : Around} {E : Value → Shared → Prop} {z : Shared} {l : Addr} {its : List Value} {ns : List Int} {Q : Value → Shared → Prop} (hh : A.handled = none) (hl : z.heap.IsTuple l its.toArray) (hi : PyProof.Rows.IntsAre its ns)
    (q : ∀ h' tk t', (∀ b o, z.heap.get? b = some o → h'.get? b = some o) → Q (.int ns.sum t') { z with heap := h', toks := tk }) : wpAny (model prog w) A (call (.builtin "sum") [.ref l]) Q E z := by
  obtain ⟨xs, e⟩ := hi.allInts.items
  have hn : numsOf (intItems xs).toList = ns := by rw [← e]; exact hi.numsOf
  rw [nums_intItems] at hn
  rw [e] at hl
  refine PySem.W.ktm_sumG hh hl fun h' tk t' kp => ?_
  have r := q h' tk t' kp
  rw [preSum_eq, List.take_of_length_le (by simp), hn]
  exact r
theorem cb_sum (hc : X.calm = true) : CallR X (.builtin "sum") (rC X.K T fun objs ds => bi objs .sum ds) := by
  intro pn z σ H us vs Q J r h
  obtain ⟨ρ, objs, ds, w, sr, rx, e, fin⟩ := h
  simp only [bi] at e
  split at e
  · split at e
    · rename_i e1
      obtain ⟨is, e2, rfl⟩ := Option.map_eq_some_iff.mp e
      obtain ⟨u, rfl, ru⟩ := reps1 (ds := []) rx
      obtain ⟨p, ws, rfl, h1, r1⟩ := seqOf_any sr.st e1 ru
      rw [ints_of e2 r1] at h1
      rcases h1 with h1 | h1
      · exact cr_sum hc pn z σ H _ vs Q J r ⟨p, is, rfl, h1, fin.int sr⟩
      · rw [Vals.ref1 r]
        obtain ⟨its, rv, tp, _⟩ := J.tuple h1
        exact sum_tup (J.ok.hd hc) tp rv.ints fun h' tk t' kp => ⟨.int _, H, J.kept kp, ⟨_, rfl⟩, fin.int sr⟩
    · cases e
  · cases e
theorem alike_ints (is : List Int) : PySem.W.AlikeAll (is.map PyData.int) := by
  refine ⟨fun x hx y hy => ?_, fun x hx => ?_⟩
  · obtain ⟨i, _, rfl⟩ := List.mem_map.mp hx
    obtain ⟨j, _, rfl⟩ := List.mem_map.mp hy
    rfl
  · obtain ⟨i, _, rfl⟩ := List.mem_map.mp hx
    exact fun q => nomatch q
theorem reads_ints {h : Heap} : ∀ {its : List Value} {is : List Int}, PyProof.Rows.IntsAre its is → ∃ as, ReadsAll h its (is.map PyData.int) as
  | _, _, .nil => ⟨_, .nil⟩
  | _, _, .cons n t r => by
    obtain ⟨as, q⟩ := reads_ints (h := h) r
    exact ⟨_, .cons (.int n t) q⟩
theorem depth_ints : ∀ is : List Int, PyData.depthAll (is.map PyData.int) ≤ 1
  | [] => by simp [PyData.depthAll]
  | i :: is => by
    have := depth_ints is
    simp only [List.map_cons, PyData.depthAll, PyData.depth]
    omega
theorem cb_max1 (hc : X.calm = true) (hu : X.A.units + 100 < cLine) : CallR X (.builtin "max") (rC X.K T fun objs ds => bi objs .max1 ds) := by
  intro pn z σ H us vs Q J r h
  obtain ⟨ρ, objs, ds, w, sr, rx, e, fin⟩ := h
  simp only [bi] at e
  split at e
  · split at e
    · rename_i e1
      split at e
      · rename_i i is e2
        cases e
        obtain ⟨u, rfl, ru⟩ := reps1 (ds := []) rx
        obtain ⟨p, ws, rfl, h1, r1⟩ := seqOf_any sr.st e1 ru
        rw [ints_of e2 r1] at h1
        rw [Vals.ref1 r]
        have dp := depth_ints (i :: is)
        have fin' : ∀ {v : Value} {h' : Heap} {tk : Nat} {bs : List Addr}, Reads h' v (PySem.W.maxD (.int i) (is.map PyData.int)) bs → (∀ b o, z.heap.get? b = some o → h'.get? b = some o) → EP X pn σ Q v { z with heap := h', toks := tk } := fun {v h' tk bs} rd kp => by
          rw [PySem.W.maxD_ints] at rd
          cases rd
          exact ⟨.int _, H, J.kept kp, ⟨_, rfl⟩, fin.int sr⟩
        rcases h1 with h1 | h1
        · obtain ⟨its, rv, tp, _⟩ := J.list h1
          obtain ⟨as, rd⟩ := reads_ints (h := z.heap) rv.ints
          exact PySem.W.max_list_data (J.ok.hd hc) tp.isList rd (alike_ints (i :: is)) (by rw [List.map_cons] at dp; omega) fun _ v h' tk bs _ rd kp => fin' rd kp
        · obtain ⟨its, rv, tp, _⟩ := J.tuple h1
          obtain ⟨as, rd⟩ := reads_ints (h := z.heap) rv.ints
          exact PySem.W.max_tuple_data (J.ok.hd hc) tp rd (alike_ints (i :: is)) (by rw [List.map_cons] at dp; omega) fun _ v h' tk bs _ rd kp => fin' rd kp
      · cases e
    · cases e
  · cases e
theorem cb_min1 (hc : X.calm = true) (hu : X.A.units + 100 < cLine) : CallR X (.builtin "min") (rC X.K T fun objs ds => bi objs .min1 ds) := by
  intro pn z σ H us vs Q J r h
  obtain ⟨ρ, objs, ds, w, sr, rx, e, fin⟩ := h
  simp only [bi] at e
  split at e
  · split at e
    · rename_i e1
      split at e
      · rename_i i is e2
        cases e
        obtain ⟨u, rfl, ru⟩ := reps1 (ds := []) rx
        obtain ⟨p, ws, rfl, h1, r1⟩ := seqOf_any sr.st e1 ru
        rw [ints_of e2 r1] at h1
        rw [Vals.ref1 r]
        have dp := depth_ints (i :: is)
        have fin' : ∀ {v : Value} {h' : Heap} {tk : Nat} {bs : List Addr}, Reads h' v (PySem.W.minD (.int i) (is.map PyData.int)) bs → (∀ b o, z.heap.get? b = some o → h'.get? b = some o) → EP X pn σ Q v { z with heap := h', toks := tk } := fun {v h' tk bs} rd kp => by
          rw [PySem.W.minD_ints] at rd
          cases rd
          exact ⟨.int _, H, J.kept kp, ⟨_, rfl⟩, fin.int sr⟩
        rcases h1 with h1 | h1
        · obtain ⟨its, rv, tp, _⟩ := J.list h1
          obtain ⟨as, rd⟩ := reads_ints (h := z.heap) rv.ints
          exact PySem.W.min_list_data (J.ok.hd hc) tp.isList rd (alike_ints (i :: is)) (by rw [List.map_cons] at dp; omega) fun _ v h' tk bs _ rd kp => fin' rd kp
        · obtain ⟨its, rv, tp, _⟩ := J.tuple h1
          obtain ⟨as, rd⟩ := reads_ints (h := z.heap) rv.ints
          exact PySem.W.min_tuple_data (J.ok.hd hc) tp rd (alike_ints (i :: is)) (by rw [List.map_cons] at dp; omega) fun _ v h' tk bs _ rd kp => fin' rd kp
      · cases e
    · cases e
  · cases e
theorem cb_all (hc : X.calm = true) : CallR X (.builtin "all") (rC X.K T fun objs ds => bi objs .all ds) := by
  intro pn z σ H us vs Q J r h
  obtain ⟨ρ, objs, ds, w, sr, rx, e, fin⟩ := h
  simp only [bi] at e
  split at e
  · split at e
    · rename_i e1
      obtain ⟨is, e2, rfl⟩ := Option.map_eq_some_iff.mp e
      obtain ⟨u, rfl, ru⟩ := reps1 (ds := []) rx
      obtain ⟨p, ws, rfl, h1, r1⟩ := seqOf_lst sr.st e1 ru
      rw [bools_of e2 r1] at h1
      exact cr_all hc pn z σ H _ vs Q J r ⟨p, is, rfl, SqL.of h1, fin.bl sr⟩
    · cases e
  · cases e
theorem cb_any (hc : X.calm = true) : CallR X (.builtin "any") (rC X.K T fun objs ds => bi objs .any ds) := by
  intro pn z σ H us vs Q J r h
  obtain ⟨ρ, objs, ds, w, sr, rx, e, fin⟩ := h
  simp only [bi] at e
  split at e
  · split at e
    · rename_i e1
      obtain ⟨is, e2, rfl⟩ := Option.map_eq_some_iff.mp e
      obtain ⟨u, rfl, ru⟩ := reps1 (ds := []) rx
      obtain ⟨p, ws, rfl, h1, r1⟩ := seqOf_lst sr.st e1 ru
      rw [bools_of e2 r1] at h1
      exact cr_any hc pn z σ H _ vs Q J r ⟨p, is, rfl, SqL.of h1, fin.bl sr⟩
    · cases e
  · cases e
end
end Ev

set_option Elab.async false
set_option linter.all false
set_option maxRecDepth 100000
/-! Ev6: methods of lists; what is written -/
namespace Ev
open PySem L2
section
variable {K : PySem.W.Frag} {T : List (Addr × Str)} {ρ ρ' α : List Addr} {H H' : Hp} {objs : List Ob}
theorem tabs_write {a : Addr} {xs : List V} {o : HO} (h : LamX.Tabs T H) (ha : H a = some (.lst xs)) : LamX.Tabs T (L2.upd H a o) := fun p hp => by
  obtain ⟨ps, h1, h2, h3⟩ := h p hp
  have ne : ∀ b u, H b = some u → (∀ xs, u ≠ .lst xs) → b ≠ a := fun b u e n z => by
    rw [z, ha] at e
    exact n xs (Option.some.inj e).symm
  refine ⟨ps, by rw [upd_ne (ne _ _ h1 fun _ z => nomatch z)]; exact h1, h2, fun pos cv hc => ?_⟩
  obtain ⟨c, e1, e2⟩ := h3 pos cv hc
  exact ⟨c, e1, by rw [upd_ne (ne _ _ e2 fun _ z => by unfold LamX.CodeO at z; cases z)]; exact e2⟩
theorem Sr.write {n : Nat} {a : Addr} {ds : List D} {xs vs : List V} (s : Sr K T ρ H objs) (ha : ρ[n]? = some a) (hx : H a = some (.lst xs)) (r : Reps K ρ ρ H ds vs) : Sr K T ρ (L2.upd H a (.lst vs)) (objs.set n (.lst ds)) :=
  ⟨s.st.write ha hx r, tabs_write s.tab hx⟩
/-- what a call of a method leaves -/
def FinR (K : PySem.W.Frag) (T : List (Addr × Str)) (ρ : List Addr) (H : Hp) (r : R X) (Q : VK) : Prop := match r with
  | .ok x st => ∀ ρ' H' v, Ext K ρ H ρ' H' → LamX.Tabs T H' → ResX K ρ' H H' st.objs x v → Q v H'
  | _ => False
def rM (K : PySem.W.Frag) (T : List (Addr × Str)) (m : Mt) : V → List V → Hp → VK → Prop := fun u us H Q => ∃ ρ st n ds, Sr K T ρ H st.objs ∧ Rep K ρ ρ H (.ref n) u ∧ Reps K ρ ρ H ds us ∧ FinR K T ρ H (mt st m n ds) Q
end
section
variable {X : Cx} {T : List (Addr × Str)}
theorem cm_append : MtM X "list.append" (rM X.K T .append) := by
  intro pn z σ H u us uu vv Q J ru rv h
  obtain ⟨ρ, st, n, ds, sr, rx, rd, fin⟩ := h
  simp only [Rep] at rx
  obtain ⟨a, rfl, ha⟩ := rx
  obtain ⟨es, vs, e1, e2, e3⟩ := sr.st.ob ha
  simp only [mt, e1] at fin
  split at fin
  · rename_i d
    split at fin
    · rename_i c
      obtain ⟨v, rfl, r1⟩ := reps1 (ds := []) rd
      have sr' := sr.write ha e2 (e3.app (Reps.cons r1 Reps.nil))
      exact mt_append pn z σ H _ _ uu vv Q J ru rv ⟨a, vs, v, rfl, rfl, e2, by rw [← e3.len]; exact c, fin ρ _ _ (Ext.write e2 (List.mem_of_getElem? ha)) sr'.tab ⟨sr'.st, by simp only [Rep]⟩⟩
    · exact fin.elim
  · exact fin.elim
theorem cm_extend : MtM X "list.extend" (rM X.K T .extend) := by
  intro pn z σ H u us uu vv Q J ru rv h
  obtain ⟨ρ, st, n, ds, sr, rx, rd, fin⟩ := h
  simp only [Rep] at rx
  obtain ⟨a, rfl, ha⟩ := rx
  obtain ⟨es, vs, e1, e2, e3⟩ := sr.st.ob ha
  simp only [mt, e1] at fin
  split at fin
  · rename_i d
    split at fin
    · rename_i fs hf
      split at fin
      · rename_i c
        obtain ⟨v, rfl, r1⟩ := reps1 (ds := []) rd
        obtain ⟨b, ws, rfl, h1, h2⟩ := seqOf_lst sr.st hf r1
        have sr' := sr.write ha e2 (e3.app h2)
        exact mt_extend pn z σ H _ _ uu vv Q J ru rv ⟨a, b, vs, ws, rfl, rfl, e2, h1, by rw [← e3.len, ← h2.len]; exact c, fin ρ _ _ (Ext.write e2 (List.mem_of_getElem? ha)) sr'.tab ⟨sr'.st, by simp only [Rep]⟩⟩
      · exact fin.elim
    · exact fin.elim
  · exact fin.elim
theorem cm_pop : MtM X "list.pop" (rM X.K T .pop) := by
  intro pn z σ H u us uu vv Q J ru rv h
  obtain ⟨ρ, st, n, ds, sr, rx, rd, fin⟩ := h
  simp only [Rep] at rx
  obtain ⟨a, rfl, ha⟩ := rx
  obtain ⟨es, vs, e1, e2, e3⟩ := sr.st.ob ha
  simp only [mt, e1] at fin
  split at fin
  · split at fin
    · rename_i c
      simp only [Reps] at rd
      subst rd
      have sr' := sr.write ha e2 e3.last
      obtain ⟨v, hv, r1⟩ := e3.get c
      have ex : Ext X.K ρ H ρ (L2.upd H a (.lst vs.dropLast)) := Ext.write e2 (List.mem_of_getElem? ha)
      exact mt_pop pn z σ H _ _ uu vv Q J ru rv ⟨a, vs, v, rfl, rfl, e2, by rw [← e3.len]; exact hv, fin ρ _ _ ex sr'.tab ⟨sr'.st, r1.mono ex (fun _ h => h) fun _ h => .inl h⟩⟩
    · exact fin.elim
  · exact fin.elim
theorem cm_popi : MtM X "list.pop" (rM X.K T .popi) := by
  intro pn z σ H u us uu vv Q J ru rv h
  obtain ⟨ρ, st, n, ds, sr, rx, rd, fin⟩ := h
  simp only [Rep] at rx
  obtain ⟨a, rfl, ha⟩ := rx
  obtain ⟨es, vs, e1, e2, e3⟩ := sr.st.ob ha
  simp only [mt, e1] at fin
  split at fin
  · rename_i i
    split at fin
    · rename_i k hk
      split at fin
      · rename_i c
        obtain ⟨v, rfl, r1⟩ := reps1 (ds := []) rd
        simp only [Rep] at r1
        subst r1
        have sr' := sr.write ha e2 (e3.erase k)
        obtain ⟨v, hv, r1⟩ := e3.get c
        have ex : Ext X.K ρ H ρ (L2.upd H a (.lst (vs.eraseIdx k))) := Ext.write e2 (List.mem_of_getElem? ha)
        have hk' : L2.ixN _ _ = some k := hk
        rw [e3.len] at hk'
        obtain ⟨h1, h2, h3, h4⟩ := ixN_seq hk'
        have sz := (J.hok a _ e2).1
        rw [sizeLine_eq] at sz
        exact mt_popAt pn z σ H _ _ uu vv Q J ru rv ⟨a, vs, i, k, v, rfl, rfl, e2, by omega, by omega, h1, hv, fin ρ _ _ ex sr'.tab ⟨sr'.st, r1.mono ex (fun _ h => h) fun _ h => .inl h⟩⟩
      · exact fin.elim
    · exact fin.elim
  · exact fin.elim
end
end Ev

set_option Elab.async false
set_option linter.all false
set_option maxRecDepth 100000
/-! Ev7: names, closures; what a reading of the evaluator is -/
namespace Ev
open PySem L2
/-- a def of the text: its name, its slots' names, its parameters -/
structure FnI where
  name : Str
  N : List Str
  ps : List Str
  body : List Stmt
  scope : Scope
  params : Arguments
/-- a lambda of the text: the maker's qualified name, slots' names, parameters, the names that it keeps -/
structure LamI where
  qual : Str
  N : List Str
  ps : List Str
  fr : List Str
  args : Arguments
  body : Expr
  scope : Scope
structure Inf where
  fns : List FnI
  lams : List LamI
  cls : List Str
  nums : List (Str × Int)
  free : List Str
  gcd : Bool
structure Gs where
  T : List (Addr × Str)
  inf : Inf
  cl : Call
section
variable (K : PySem.W.Frag) (mg : Str → Option Value) (inf : Inf) (ρ α : List Addr) (H : Hp)
/-- a slot that holds no closure -/
def Sl0 : Sl → Option V → Prop
  | .no, _ => True
  | .val d, o => ∃ v, o = some v ∧ Rep K ρ α H d v
  | .fn f, o => ∃ a fi, o = some (.ref a) ∧ inf.fns[f]? = some fi ∧ mg fi.name = some (.ref a)
  | .lam _ _, _ => False
/-- the closure at a: what the heap h tells of it, H0 what is tracked there, fs the frames -/
def CloAt (h : Heap) (H0 : Hp) (fs : List Addr) (l : Nat) (ws : List Sl) (a : Addr) : Prop :=
  ∃ (li : LamI) (cl : List (Str × Addr)) (c' : Addr) (pm ctv : Value) (vs : List (Option V)), inf.lams[l]? = some li ∧
    h.get? a = some (PySem.W.kla_obj "<lambda>" (li.qual ++ "<lambda>") li.args li.body li.scope cl pm c' ctv) ∧ H0 a = none ∧ a ∉ fs ∧
    H c' = some (LamX.CodeO c' (li.qual ++ "<lambda>")) ∧ NdefX.CellsAt cl li.fr vs h H0 ∧ ws.length = vs.length ∧
    ∀ (i : Nat) w, ws[i]? = some w → Sl0 K mg inf ρ α H w (NdefX.slotAt vs i)
/-- an argument -/
def SlA (h : Heap) (H0 : Hp) (fs : List Addr) : Sl → Option V → Prop
  | .lam l ws, o => ∃ a, o = some (.ref a) ∧ CloAt K mg inf ρ α H h H0 fs l ws a
  | w, o => Sl0 K mg inf ρ α H w o
end
section
variable {K : PySem.W.Frag} {mg : Str → Option Value} {inf : Inf} {ρ ρ' α α' : List Addr} {H H' : Hp}
theorem Sl0.mono (e : Ext K ρ H ρ' H') (sub : ∀ a ∈ ρ, a ∈ α) (av : Av K α H α') {w : Sl} {o : Option V} (h : Sl0 K mg inf ρ α H w o) : Sl0 K mg inf ρ' α' H' w o := by
  cases w with
  | no => trivial
  | val d =>
    obtain ⟨v, h1, h2⟩ := h
    exact ⟨v, h1, h2.mono e sub av⟩
  | fn f => exact h
  | lam _ _ => exact h.elim
theorem CloAt.mono (e : Ext K ρ H ρ' H') (sub : ∀ a ∈ ρ, a ∈ α) (av : Av K α H α') {h : Heap} {H0 : Hp} {fs : List Addr} {l : Nat} {ws : List Sl} {a : Addr} (c : CloAt K mg inf ρ α H h H0 fs l ws a) : CloAt K mg inf ρ' α' H' h H0 fs l ws a := by
  obtain ⟨li, cl, c', pm, ctv, vs, h1, h2, h3, h4, h5, h6, h8, h9⟩ := c
  exact ⟨li, cl, c', pm, ctv, vs, h1, h2, h3, h4, e.keep _ _ h5 (fun _ _ z => by unfold LamX.CodeO at z; cases z) (fun _ z => by unfold LamX.CodeO at z; cases z), h6, h8, fun i w hw => (h9 i w hw).mono e sub av⟩
theorem SlA.mono (e : Ext K ρ H ρ' H') (sub : ∀ a ∈ ρ, a ∈ α) (av : Av K α H α') {h : Heap} {H0 : Hp} {fs : List Addr} {w : Sl} {o : Option V} (c : SlA K mg inf ρ α H h H0 fs w o) : SlA K mg inf ρ' α' H' h H0 fs w o := by
  cases w with
  | lam l ws =>
    obtain ⟨a, h1, h2⟩ := c
    exact ⟨a, h1, h2.mono e sub av⟩
  | no => exact Sl0.mono (mg := mg) (inf := inf) (w := .no) (o := o) e sub av c
  | val d => exact Sl0.mono (mg := mg) (inf := inf) (w := (.val d)) e sub av c
  | fn f => exact Sl0.mono (mg := mg) (inf := inf) (w := (.fn f)) e sub av c
/-- cells later on: their content stands though a frame's slots may change -/
theorem cells_later {X : Cx} {pins : List (Addr × Obj)} {σ : L2.St} {H1 : Hp} {s : Shared} {cl : List (Str × Addr)} {fr : List Str} {vs : List (Option V)} (J : Inv X pins σ H1 s) (hx : X.ex = []) (C : NdefX.CellsAt cl fr vs X.s_0.heap X.H_0) : NdefX.CellsAt cl fr vs s.heap H1 := by
  have nx : ∀ b, b ∉ X.ex := fun b => by rw [hx]; simp
  have kp : ∀ y c, cl.lookup y = some c → ∀ v, X.s_0.heap.IsCell c v → s.heap.IsCell c v := fun y c e v ⟨o, ho, hd⟩ => by
    obtain ⟨sl, q⟩ := J.base.any ho (C.all y c e).1 (nx c)
    exact ⟨_, q, hd⟩
  refine ⟨C.len, fun y c e => ?_, C.inj, fun i y e => ?_⟩
  · obtain ⟨n, v, z⟩ := C.all y c e
    refine ⟨?_, v, kp y c e v z⟩
    obtain ⟨o, ho, _⟩ := z
    exact J.base.free c o ho n (nx c)
  · obtain ⟨c, hc, hv⟩ := C.has i y e
    refine ⟨c, hc, fun v ev => ?_⟩
    obtain ⟨u, r, z⟩ := hv v ev
    exact ⟨u, r, kp y c hc _ z⟩
/-- a closure later on: its object and its cells stand as they stood when the frame began -/
theorem CloAt.later {X : Cx} {pins : List (Addr × Obj)} {σ : L2.St} {H1 : Hp} {s : Shared} (J : Inv X pins σ H1 s) (hx : X.ex = []) {l : Nat} {ws : List Sl} {a : Addr} (c : CloAt K mg inf ρ α H X.s_0.heap X.H_0 X.fs l ws a) : CloAt K mg inf ρ α H s.heap H1 (frs X.stack) l ws a := by
  obtain ⟨li, cl, c', pm, ctv, vs, h1, h2, h3, h4, h5, h6, h8, h9⟩ := c
  have nl : ∀ b o, X.s_0.heap.get? b = some o → b ∉ X.fs → b ∉ frs X.stack := fun b o e n m => by
    rcases List.mem_cons.mp (J.stkSub b m) with z | z
    · rw [z] at e
      exact Nat.lt_irrefl _ (Nat.lt_of_lt_of_le (Heap.lt_size e) J.ok.above)
    · exact n z
  have nx : ∀ b, b ∉ X.ex := fun b => by rw [hx]; simp
  exact ⟨li, cl, c', pm, ctv, vs, h1, J.base.keep a _ h2 h3 h4 (nx a), J.base.free a _ h2 h3 (nx a), nl a _ h2 h4, h5, cells_later J hx h6, h8, h9⟩
theorem SlA.later {X : Cx} {pins : List (Addr × Obj)} {σ : L2.St} {H1 : Hp} {s : Shared} (J : Inv X pins σ H1 s) (hx : X.ex = []) {w : Sl} {o : Option V} (c : SlA K mg inf ρ α H X.s_0.heap X.H_0 X.fs w o) : SlA K mg inf ρ α H s.heap H1 (frs X.stack) w o := by
  cases w with
  | lam l ws =>
    obtain ⟨a, h1, h2⟩ := c
    exact ⟨a, h1, h2.later J hx⟩
  | no => exact c
  | val d => exact c
  | fn f => exact c
end
/-- no closure in any slot -/
def NoLam (env : Env) : Prop := ∀ (i : Nat) l ws, env[i]? ≠ some (.lam l ws)
theorem NoLam.set {env : Env} {i : Nat} {d : D} (h : NoLam env) : NoLam (env.set i (.val d)) := fun j l ws e => by
  rw [List.getElem?_set] at e
  split at e
  · split at e
    · cases e
    · cases e
  · exact h j l ws e
/-- the slots of a frame -/
structure EnvRel (g : Gs) (X : Cx) (ρ : List Addr) (H : Hp) (σ : L2.St) (env : Env) : Prop where
  len : env.length = σ.length
  at_ : ∀ (i : Nat) w, env[i]? = some w → SlA X.K X.mg g.inf ρ ρ H X.s_0.heap X.H_0 X.fs w (NdefX.slotAt σ i)
  nl : X.ex = [] ∨ NoLam env
structure Cfg (g : Gs) (X : Cx) (ρ : List Addr) (σ : L2.St) (H : Hp) (env : Env) (st : St) : Prop where
  env : EnvRel g X ρ H σ env
  sr : Sr X.K g.T ρ H st.objs
def IsC (mg : Str → Option Value) (inf : Inf) (c : Nat) (C : Addr) : Prop := ∃ x, inf.cls[c]? = some x ∧ mg x = some (.ref C)
/-- what is wanted behind a result -/
def Post (K : PySem.W.Frag) (mg : Str → Option Value) (g : Gs) {α : Type} (ok : List Addr → Hp → α → St → Prop) (ρ : List Addr) (H : Hp) (r : R α) (E : XK) : Prop := match r with
  | .ok x st => ∀ ρ' H', Ext K ρ H ρ' H' → LamX.Tabs g.T H' → ok ρ' H' x st
  | .rs c w st => ∀ ρ' H' dx wv C, Ext K ρ H ρ' H' → Sr K g.T ρ' H' st.objs → Rep K ρ' ρ' H' w wv → Nw H dx → H' dx = some (.xd [("what", wv)]) → IsC mg g.inf c C → E (.ref C) (some dx) H'
  | .bad => False
/-- .. of an expression -/
abbrev PostX (K : PySem.W.Frag) (mg : Str → Option Value) (g : Gs) (ρ : List Addr) (H : Hp) (r : R X) (Q : VK) (E : XK) : Prop := Post K mg g (fun ρ' H' x st => ∀ v, ResX K ρ' H H' st.objs x v → Q v H') ρ H r E
section
variable {K : PySem.W.Frag} {mg : Str → Option Value} {g : Gs} {ρ ρ1 : List Addr} {H H1 : Hp} {E : XK}
theorem Post.imp {α : Type} {ok ok' : List Addr → Hp → α → St → Prop} {r : R α} (h : Post K mg g ok ρ H r E) (f : ∀ ρ' H' x st, Ext K ρ H ρ' H' → LamX.Tabs g.T H' → ok ρ' H' x st → ok' ρ' H' x st) : Post K mg g ok' ρ H r E := by
  cases r with
  | ok x st => exact fun ρ' H' e t => f ρ' H' x st e t (h ρ' H' e t)
  | rs c w st => exact h
  | bad => exact h
/-- seen from later on -/
theorem Post.step {α : Type} {ok : List Addr → Hp → α → St → Prop} {r : R α} (e : Ext K ρ H ρ1 H1) (h : Post K mg g ok ρ H r E) : Post K mg g ok ρ1 H1 r E := by
  cases r with
  | ok x st => exact fun ρ' H' e' t => h ρ' H' (e.trans e') t
  | rs c w st => exact fun ρ' H' dx wv C e' s r n o i => h ρ' H' dx wv C (e.trans e') s r (e.back n) o i
  | bad => exact h
theorem PostX.step {r : R X} {Q : VK} (e : Ext K ρ H ρ1 H1) (h : PostX K mg g ρ H r Q E) : PostX K mg g ρ1 H1 r Q E :=
  Post.imp (Post.step e h) fun ρ' H' x st e' t f v rx => f v (rx.back e)
/-- from an operation -/
theorem PostX.fin {objs : List Ob} {st : St} {z : X} {Q : VK} (h : PostX K mg g ρ H (.ok z st) Q E) (eo : st.objs = objs) : Fin K g.T ρ H objs z Q := fun ρ' H' w e t r => h ρ' H' e t w (by rw [eo]; exact r)
end
section
variable {g : Gs} {X : Cx} {ρ ρ' : List Addr} {σ : L2.St} {H H' : Hp} {env : Env} {st st' : St}
theorem Cfg.ext (c : Cfg g X ρ σ H env st) (e : Ext X.K ρ H ρ' H') (s : Sr X.K g.T ρ' H' st'.objs) : Cfg g X ρ' σ H' env st' :=
  ⟨⟨c.env.len, fun i w h => (c.env.at_ i w h).mono e (fun _ m => m) e.av, c.env.nl⟩, s⟩
theorem ResX.sr {K : PySem.W.Frag} {T : List (Addr × Str)} {objs : List Ob} {x : Ev.X} {v : V} (r : ResX K ρ H H' objs x v) (t : LamX.Tabs T H') : Sr K T ρ H' objs := ⟨r.frz.1, t⟩
end
/-! ### readings -/
section
variable (g : Gs) (X : Cx) (W : WX)
def tE (f : Env → St → R Ev.X) : TE := fun σ H Q => ∃ ρ env st, Cfg g X ρ σ H env st ∧ PostX X.K X.mg g ρ H (f env st) Q (WE W σ)
def tB' (f : Env → St → R Bool) : TT := fun σ H Q => ∃ ρ env st, Cfg g X ρ σ H env st ∧ Post X.K X.mg g (fun ρ' H' b st' => Sr X.K g.T ρ' H' st'.objs → Q b H') ρ H (f env st) (WE W σ)
def tL (f : Env → St → R (List D)) : TA := fun σ H Q => ∃ ρ env st, Cfg g X ρ σ H env st ∧ Post X.K X.mg g (fun ρ' H' ds st' => ∀ vs, Sr X.K g.T ρ' H' st'.objs → Reps X.K ρ' ρ' H' ds vs → Q vs H') ρ H (f env st) (WE W σ)
end
section
variable {g : Gs} {X : Cx} {W : WX} {ρ : List Addr} {σ : L2.St} {H : Hp} {env : Env} {st : St}
/-- one behind the other: the value stands still, the rest is wanted at the later state -/
theorem tE_bind {α : Type} {ok : List Addr → Hp → α → St → Prop} {f : Env → St → R Ev.X} {k : Ev.X → St → R α} (c : Cfg g X ρ σ H env st) (h : Post X.K X.mg g ok ρ H ((f env st).bind k) (WE W σ)) :
    tE g X W f σ H fun v H1 => ∃ ρ1 x st1, Ext X.K ρ H ρ1 H1 ∧ f env st = .ok x st1 ∧ ResX X.K ρ1 H H1 st1.objs x v ∧ Cfg g X ρ1 σ H1 env st1 ∧ Rep X.K ρ1 ρ1 H1 x.d v ∧ Post X.K X.mg g ok ρ1 H1 (k x st1) (WE W σ) := by
  refine ⟨ρ, env, st, c, ?_⟩
  cases e : f env st with
  | ok x st1 =>
    rw [e] at h
    intro ρ' H' ex t v r
    exact ⟨ρ', x, st1, ex, rfl, r, c.ext ex (r.sr t), r.frz.2, Post.step ex h⟩
  | rs c' w st1 =>
    rw [e] at h
    exact h
  | bad =>
    rw [e] at h
    exact h
theorem tL_bind {α : Type} {ok : List Addr → Hp → α → St → Prop} {f : Env → St → R (List D)} {k : List D → St → R α} (c : Cfg g X ρ σ H env st) (h : Post X.K X.mg g ok ρ H ((f env st).bind k) (WE W σ)) :
    tL g X W f σ H fun vs H1 => ∃ ρ1 ds st1, Ext X.K ρ H ρ1 H1 ∧ f env st = .ok ds st1 ∧ Cfg g X ρ1 σ H1 env st1 ∧ Reps X.K ρ1 ρ1 H1 ds vs ∧ Post X.K X.mg g ok ρ1 H1 (k ds st1) (WE W σ) := by
  refine ⟨ρ, env, st, c, ?_⟩
  cases e : f env st with
  | ok x st1 =>
    rw [e] at h
    intro ρ' H' ex t vs s r
    exact ⟨ρ', x, st1, ex, rfl, c.ext ex s, r, Post.step ex h⟩
  | rs c' w st1 =>
    rw [e] at h
    exact h
  | bad =>
    rw [e] at h
    exact h
/-- a reading whose result is known -/
theorem tE_mono {f : Env → St → R Ev.X} {Q Q' : VK} (h : tE g X W f σ H Q) (q : ∀ v H', Q v H' → Q' v H') : tE g X W f σ H Q' := by
  obtain ⟨ρ, env, st, c, p⟩ := h
  exact ⟨ρ, env, st, c, Post.imp p fun _ _ _ _ _ _ z v r => q _ _ (z v r)⟩
/-- an operation behind values -/
theorem post_ofO {Q : VK} {E : XK} {K : PySem.W.Frag} {mg : Str → Option Value} {o : Option Ev.X} (h : PostX K mg g ρ H (ofO st o) Q E) : ∃ z, o = some z ∧ Fin K g.T ρ H st.objs z Q := by
  cases o with
  | none => exact False.elim h
  | some z => exact ⟨z, rfl, PostX.fin h rfl⟩
end
end Ev

set_option Elab.async false
set_option linter.all false
set_option maxRecDepth 100000
/-! Ev8: the rules of expressions -/
namespace Ev
open PySem L2
section
variable {g : Gs} {X : Cx} {W : WX} {ρ : List Addr} {σ : L2.St} {H : Hp} {env : Env} {st : St} {e a b c : Expr} {ta tb tc t : T} {pos : Pos}
theorem peImp {t t' : TE} (h : PE X e t) (f : ∀ σ H Q, t' σ H Q → t σ H Q) : PE X e t' := ⟨fun pn z σ H Q J q => h.run pn z σ H Q J (f σ H Q q)⟩
theorem ptImp {t t' : TT} (h : PT X e t) (f : ∀ σ H Q, t' σ H Q → t σ H Q) : PT X e t' := ⟨fun pn z σ H Q J q => h.run pn z σ H Q J (f σ H Q q)⟩
theorem psImp {p : Stmt} {t t' : TS} (h : PS X p t) (f : ∀ D σ H, t' D σ H → t D σ H) : PS X p t' := ⟨fun pn z σ H D J q => h.run pn z σ H D J (f D σ H q)⟩
/-- what is new is not the program's own -/
theorem peFresh {t : TE} (h : PE X e t) : PE X e (fun σ H Q => t σ H fun v H' => (∀ a o, H' a = some o → X.K.lookup a = none) → Q v H') :=
  ⟨fun pn z σ H Q J q => thn (h.run pn z σ H _ J q) fun v z' ⟨w, H', J', r', q'⟩ => ⟨w, H', J', r', q' fun a o e => fresh_K J' e⟩⟩
/-- one behind the other, to a value -/
theorem tE_then {Q : VK} {f : Env → St → R Ev.X} {k : Ev.X → St → R Ev.X} (cf : Cfg g X ρ σ H env st) (h : PostX X.K X.mg g ρ H ((f env st).bind k) Q (WE W σ)) :
    tE g X W f σ H fun v H1 => ∃ ρ1 x st1, Ext X.K ρ H ρ1 H1 ∧ f env st = .ok x st1 ∧ ResX X.K ρ1 H H1 st1.objs x v ∧ Cfg g X ρ1 σ H1 env st1 ∧ Rep X.K ρ1 ρ1 H1 x.d v ∧ PostX X.K X.mg g ρ1 H1 (k x st1) Q (WE W σ) :=
  tE_mono (tE_bind cf h) fun v H1 ⟨ρ1, x, st1, e1, h1, h2, h3, h4, h5⟩ => ⟨ρ1, x, st1, e1, h1, h2, h3, h4, Post.imp h5 fun ρ' H' x st e' t f v rx => f v (rx.back e1)⟩
theorem tL_then {Q : VK} {f : Env → St → R (List D)} {k : List D → St → R Ev.X} (cf : Cfg g X ρ σ H env st) (h : PostX X.K X.mg g ρ H ((f env st).bind k) Q (WE W σ)) :
    tL g X W f σ H fun vs H1 => ∃ ρ1 ds st1, Ext X.K ρ H ρ1 H1 ∧ f env st = .ok ds st1 ∧ Cfg g X ρ1 σ H1 env st1 ∧ Reps X.K ρ1 ρ1 H1 ds vs ∧ PostX X.K X.mg g ρ1 H1 (k ds st1) Q (WE W σ) := by
  obtain ⟨ρ', env', st', c', p⟩ := tL_bind cf h
  exact ⟨ρ', env', st', c', Post.imp p fun _ _ _ _ _ _ z v s r => by
    obtain ⟨ρ1, ds, st1, e1, h1, h2, h3, h4⟩ := z v s r
    exact ⟨ρ1, ds, st1, e1, h1, h2, h3, Post.imp h4 fun ρ' H' x st e' t f v rx => f v (rx.back e1)⟩⟩
theorem s_loc {i : Nat} {x : Str} (hN : X.N[i]? = some x) (hv : Vis X.env.scope x) (hd : (x == ("__debug__" : Str)) = false) (hcd : (x == ("__classdict__" : Str)) = false) : PE X (.Name x pos) (tE g X W (ev g.cl (.loc i))) :=
  peImp (pe_var hN hv hd hcd) fun σ H Q h => by
    obtain ⟨ρ, env, st, cf, h⟩ := h
    simp only [ev] at h
    split at h
    · rename_i d e1
      obtain ⟨v, h1, h2⟩ := cf.env.at_ i _ e1
      exact ⟨v, NdefX.slotAt_some h1, (PostX.fin h rfl).v cf.sr h2⟩
    · exact h.elim
theorem s_const {v : V} {d : D} (h : PE X e (tC v)) (r : ∀ K ρ α H, Rep K ρ α H d v) : PE X e (tE g X W (ev g.cl (.cst d))) := peImp h fun σ H Q h => by
  obtain ⟨ρ, env, st, cf, h⟩ := h
  simp only [ev] at h
  exact (PostX.fin h rfl).v cf.sr (r _ _ _ _)
theorem s_bin {o : Bop} (ha : PE X a (tE g X W (ev g.cl ta))) (hb : PE X b (tE g X W (ev g.cl tb))) : PE X (.BinOp a (opOf o) b pos) (tE g X W (ev g.cl (.bin o ta tb))) :=
  peImp (pe_op (op_bin (T := g.T) o) ha hb) fun σ H Q h => by
    obtain ⟨ρ, env, st, cf, h⟩ := h
    simp only [ev] at h
    refine tE_mono (tE_then cf h) fun u H1 ⟨ρ1, x, st1, _, _, _, c1, r1, h1⟩ => ?_
    refine tE_mono (tE_then c1 h1) fun v H2 ⟨ρ2, y, st2, e2, _, _, c2, r2, h2⟩ => ?_
    obtain ⟨z, hz, fin⟩ := post_ofO h2
    exact ⟨ρ2, st2.objs, x.d, y.d, z, c2.sr, r1.mono e2 (fun _ m => m) e2.av, r2, hz, fin⟩
theorem s_neg (ha : PE X a (tE g X W (ev g.cl ta))) : PE X (.UnaryOp .USub a pos) (tE g X W (ev g.cl (.neg ta))) :=
  peImp (pe_un un_neg ha) fun σ H Q h => by
    obtain ⟨ρ, env, st, cf, h⟩ := h
    simp only [ev] at h
    refine tE_mono (tE_then cf h) fun u H1 ⟨ρ1, x, st1, _, _, _, c1, r1, h1⟩ => ?_
    split at h1
    · rename_i i ei
      rw [ei] at r1
      simp only [Rep] at r1
      exact ⟨i, r1, (PostX.fin h1 rfl).int c1.sr⟩
    · exact h1.elim
/-- not e, of any value -/
theorem pe_notT {t : TE} (ha : PE X a t) : PE X (.UnaryOp .Not a pos) (fun σ H Q => t σ H fun x H1 => ∃ k, TruV X.K x H1 k ∧ Q (.bl (!k)) H1) := by
  refine ⟨fun pn z σ H Q J h => ?_⟩
  refine PyProof.Rows.UnaryOp_ (thn (ha.run pn z σ H _ J h) fun v s1 ⟨x, H1, J1, r1, k, q1, q2⟩ => ?_)
  exact PyProof.Rows.not_of (thn (tru_ok pn s1 σ H1 x v (fun k' H2 => Q (.bl (!k')) H2) J1 r1 ⟨k, q1, q2⟩) fun k' s2 ⟨H2, J2, q3⟩ => ⟨.bl (!k'), H2, J2, rfl, q3⟩)
theorem s_not (ha : PE X a (tE g X W (ev g.cl ta))) : PE X (.UnaryOp .Not a pos) (tE g X W (ev g.cl (.not ta))) :=
  peImp (pe_notT ha) fun σ H Q h => by
    obtain ⟨ρ, env, st, cf, h⟩ := h
    simp only [ev] at h
    refine tE_mono (tE_then cf h) fun u H1 ⟨ρ1, x, st1, _, _, _, c1, r1, h1⟩ => ?_
    obtain ⟨z, hz, fin⟩ := post_ofO h1
    obtain ⟨k, hk, rfl⟩ := Option.map_eq_some_iff.mp hz
    exact ⟨k, truth_ok c1.sr.st hk r1, fin.bl c1.sr⟩
theorem s_cmp {o : Cop} (hu : X.A.units + 65 < cLine) (ha : PE X a (tE g X W (ev g.cl ta))) (hb : PE X b (tE g X W (ev g.cl tb))) (hm : behindInMarks (copOf o) b = false) : PE X (.Compare a [copOf o] [b] pos) (tE g X W (ev g.cl (.cmp o ta tb))) :=
  peImp (pe_cmpR (op_cmp (T := g.T) hu o) ha hb hm) fun σ H Q h => by
    obtain ⟨ρ, env, st, cf, h⟩ := h
    simp only [ev] at h
    refine tE_mono (tE_then cf h) fun u H1 ⟨ρ1, x, st1, _, _, _, c1, r1, h1⟩ => ?_
    refine tE_mono (tE_then c1 h1) fun v H2 ⟨ρ2, y, st2, e2, _, _, c2, r2, h2⟩ => ?_
    obtain ⟨z, hz, fin⟩ := post_ofO h2
    exact ⟨ρ2, st2.objs, x.d, y.d, z, c2.sr, r1.mono e2 (fun _ m => m) e2.av, r2, hz, fin⟩
theorem s_chn {o p : Cop} (hu : X.A.units + 65 < cLine) (ha : PE X a (tE g X W (ev g.cl ta))) (hb : PE X b (tE g X W (ev g.cl tb))) (hc : PE X c (tE g X W (ev g.cl tc))) (hm : lastMarks [copOf o, copOf p] [b, c] = false) :
    PE X (.Compare a [copOf o, copOf p] [b, c] pos) (tE g X W (ev g.cl (.chn o p ta tb tc))) :=
  peImp (pe_chain (op_cmp (T := g.T) hu o) (op_cmp (T := g.T) hu p) ha hb hc hm) fun σ H Q h => by
    obtain ⟨ρ, env, st, cf, h⟩ := h
    simp only [ev] at h
    refine tE_mono (tE_then cf h) fun u H1 ⟨ρ1, x, st1, _, _, _, c1, r1, h1⟩ => ?_
    refine tE_mono (tE_then c1 h1) fun v H2 ⟨ρ2, y, st2, e2, _, _, c2, r2, h2⟩ => ?_
    have r1' := r1.mono e2 (fun _ m => m) e2.av
    cases hk : cmp st2.objs o x.d y.d with
    | none => rw [hk] at h2; exact h2.elim
    | some k =>
      refine ⟨ρ2, st2.objs, x.d, y.d, .v (.bl k), c2.sr, r1', r2, congrArg (Option.map fun b => Ev.X.v (D.bl b)) hk, fun ρ' H' w ex tb rw' => ?_⟩
      obtain ⟨s', r'⟩ := rw'
      simp only [Rep] at r'
      subst r'
      refine ⟨k, rfl, ?_⟩
      have c3 : Cfg g X ρ' σ H' env st2 := c2.ext ex ⟨s', tb⟩
      rw [hk] at h2
      cases k with
      | true =>
        rw [if_pos rfl]
        refine tE_mono (tE_then c3 (PostX.step ex h2)) fun w H4 ⟨ρ4, z, st4, e4, _, _, c4, r4, h4⟩ => ?_
        obtain ⟨z', hz, fin⟩ := post_ofO h4
        exact ⟨ρ4, st4.objs, y.d, z.d, z', c4.sr, r2.mono (ex.trans e4) (fun _ m => m) (ex.trans e4).av, r4, hz, fin⟩
      | false =>
        rw [if_neg (by decide)]
        exact (PostX.fin (PostX.step ex h2) rfl).bl c3.sr
/-! ### and, or, if -/
theorem evt_eq (cl : Call) (t : T) (env : Env) (st : St) : evt cl t env st = (ev cl t env st).bind fun x s => ofO s (truth s.objs x.d) := rfl
/-- a test as the evaluator has it -/
abbrev tT (g : Gs) (X : Cx) (W : WX) (t : T) : TT := tB' g X W (evt g.cl t)
theorem tB_bind {α : Type} {ok : List Addr → Hp → α → St → Prop} {f : Env → St → R Bool} {k : Bool → St → R α} (cf : Cfg g X ρ σ H env st) (h : Post X.K X.mg g ok ρ H ((f env st).bind k) (WE W σ)) :
    tB' g X W f σ H fun b H1 => ∃ ρ1 st1, Ext X.K ρ H ρ1 H1 ∧ Cfg g X ρ1 σ H1 env st1 ∧ Post X.K X.mg g ok ρ1 H1 (k b st1) (WE W σ) := by
  refine ⟨ρ, env, st, cf, ?_⟩
  cases e : f env st with
  | ok b st1 =>
    rw [e] at h
    exact fun ρ' H' ex t s => ⟨ρ', st1, ex, cf.ext ex s, Post.step ex h⟩
  | rs c' w st1 =>
    rw [e] at h
    exact h
  | bad =>
    rw [e] at h
    exact h
/-- a value's truth -/
theorem t_of (ha : PE X a (tE g X W (ev g.cl ta))) (he : ∀ whole, isTrue a X.env whole = (do let v ← whole; standAt a.pos; holding [v] (truthy v))) : PT X a (tT g X W ta) :=
  ptImp (pt_truth ha he) fun σ H Q h => by
    obtain ⟨ρ, env, st, cf, h⟩ := h
    rw [evt_eq] at h
    refine tE_mono (tE_bind cf h) fun v H1 ⟨ρ1, x, st1, _, _, _, c1, r1, h1⟩ => ?_
    cases e : truth st1.objs x.d with
    | none => rw [e] at h1; exact h1.elim
    | some k =>
      rw [e] at h1
      exact ⟨k, truth_ok c1.sr.st e r1, h1 ρ1 H1 .refl c1.sr.tab c1.sr⟩
/-- a comparison's -/
theorem t_bool {f : Env → St → R Ev.X} (hb : ∀ env st x st', ev g.cl ta env st = .ok x st' → ∃ k, x = .v (.bl k)) (h : PT X a (tTest (tE g X W (ev g.cl ta)))) : PT X a (tT g X W ta) :=
  ptImp h fun σ H Q h => by
    obtain ⟨ρ, env, st, cf, h⟩ := h
    rw [evt_eq] at h
    refine tE_mono (tE_bind cf h) fun v H1 ⟨ρ1, x, st1, _, e1, _, c1, r1, h1⟩ => ?_
    obtain ⟨k, rfl⟩ := hb _ _ _ _ e1
    change Rep X.K ρ1 ρ1 H1 (.bl k) v at r1
    simp only [Rep] at r1
    subst r1
    exact ⟨k, rfl, h1 ρ1 H1 .refl c1.sr.tab c1.sr⟩
theorem evt_and (cl : Call) (s t : T) (env : Env) (st : St) : evt cl (.and s t) env st = (evt cl s env st).bind fun k z => if k then evt cl t env z else .ok false z := by
  simp only [evt, ev]
  cases e : ev cl s env st with
  | rs c w z => rfl
  | bad => rfl
  | ok x z =>
    simp only [R.bind]
    cases k : truth z.objs x.d with
    | none => rfl
    | some b => cases b with
      | true => rfl
      | false => simp only [ofO, k]; rfl
theorem evt_or (cl : Call) (s t : T) (env : Env) (st : St) : evt cl (.or s t) env st = (evt cl s env st).bind fun k z => if k then .ok true z else evt cl t env z := by
  simp only [evt, ev]
  cases e : ev cl s env st with
  | rs c w z => rfl
  | bad => rfl
  | ok x z =>
    simp only [R.bind]
    cases k : truth z.objs x.d with
    | none => rfl
    | some b => cases b with
      | false => rfl
      | true => simp only [ofO, k]; rfl
theorem evt_not (cl : Call) (s : T) (env : Env) (st : St) : evt cl (.not s) env st = (evt cl s env st).bind fun k z => .ok (!k) z := by
  simp only [evt, ev]
  cases e : ev cl s env st with
  | rs c w z => rfl
  | bad => rfl
  | ok x z =>
    simp only [R.bind]
    cases k : truth z.objs x.d with
    | none => rfl
    | some b => rfl
theorem ev_ite (cl : Call) (c s t : T) (env : Env) (st : St) : ev cl (.ite c s t) env st = (evt cl c env st).bind fun k z => if k then ev cl s env z else ev cl t env z := by
  simp only [evt, ev]
  cases e : ev cl c env st with
  | rs c w z => rfl
  | bad => rfl
  | ok x z =>
    simp only [R.bind]
    cases k : truth z.objs x.d with
    | none => rfl
    | some b => cases b <;> rfl
theorem evt_ite (cl : Call) (c s t : T) (env : Env) (st : St) : evt cl (.ite c s t) env st = (evt cl c env st).bind fun k z => if k then evt cl s env z else evt cl t env z := by
  rw [evt_eq, ev_ite]
  cases e : evt cl c env st with
  | rs c w z => rfl
  | bad => rfl
  | ok k z => cases k <;> rfl
variable {rest : List Expr}
theorem t_and1 (ha : PT X a (tT g X W ta)) : PW X (.BoolOp .And [a] pos) (tT g X W ta) := pw_and1 ha
theorem pwImp {t t' : TT} (h : PW X e t) (f : ∀ σ H Q, t' σ H Q → t σ H Q) : PW X e t' := ⟨fun wh pn z σ H Q J q => h.run wh pn z σ H Q J (f σ H Q q)⟩
theorem tB_mono {f : Env → St → R Bool} {Q Q' : Bool → Hp → Prop} (h : tB' g X W f σ H Q) (q : ∀ v H', Q v H' → Q' v H') : tB' g X W f σ H Q' := by
  obtain ⟨ρ, env, st, c, p⟩ := h
  exact ⟨ρ, env, st, c, Post.imp p fun _ _ _ _ _ _ z s => q _ _ (z s)⟩
theorem t_and (ha : PT X a (tT g X W ta)) (hb : PW X (.BoolOp .And (b :: rest) pos) (tT g X W tb)) : PW X (.BoolOp .And (a :: b :: rest) pos) (tT g X W (.and ta tb)) :=
  pwImp (pw_and ha hb) fun σ H Q h => by
    obtain ⟨ρ, env, st, cf, h⟩ := h
    rw [evt_and] at h
    refine tB_mono (tB_bind cf h) fun k H1 ⟨ρ1, st1, _, c1, h1⟩ => ?_
    cases k with
    | true => exact ⟨ρ1, env, st1, c1, h1⟩
    | false => exact h1 ρ1 H1 .refl c1.sr.tab c1.sr
theorem t_or (ha : PT X a (tT g X W ta)) (hb : PW X (.BoolOp .Or (b :: rest) pos) (tT g X W tb)) : PW X (.BoolOp .Or (a :: b :: rest) pos) (tT g X W (.or ta tb)) :=
  pwImp (pw_or ha hb) fun σ H Q h => by
    obtain ⟨ρ, env, st, cf, h⟩ := h
    rw [evt_or] at h
    refine tB_mono (tB_bind cf h) fun k H1 ⟨ρ1, st1, _, c1, h1⟩ => ?_
    cases k with
    | false => exact ⟨ρ1, env, st1, c1, h1⟩
    | true => exact h1 ρ1 H1 .refl c1.sr.tab c1.sr
theorem t_not (ha : PT X a (tT g X W ta)) : PT X (.UnaryOp .Not a pos) (tT g X W (.not ta)) :=
  ptImp (pt_not ha) fun σ H Q h => by
    obtain ⟨ρ, env, st, cf, h⟩ := h
    rw [evt_not] at h
    exact tB_mono (tB_bind cf h) fun k H1 ⟨ρ1, st1, _, c1, h1⟩ => h1 ρ1 H1 .refl c1.sr.tab c1.sr
theorem s_ite (hc : PT X c (tT g X W tc)) (ha : PE X a (tE g X W (ev g.cl ta))) (hb : PE X b (tE g X W (ev g.cl tb))) : PE X (.IfExp c a b pos) (tE g X W (ev g.cl (.ite tc ta tb))) :=
  peImp (pe_ifExp hc ha hb) fun σ H Q h => by
    obtain ⟨ρ, env, st, cf, h⟩ := h
    rw [ev_ite] at h
    refine tB_mono (tB_bind cf h) fun k H1 ⟨ρ1, st1, e1, c1, h1⟩ => ?_
    have h2 := Post.imp h1 fun ρ' H' x st e' t f v (rx : ResX X.K ρ' H1 H' st.objs x v) => f v (rx.back e1)
    cases k with
    | true => exact ⟨ρ1, env, st1, c1, h2⟩
    | false => exact ⟨ρ1, env, st1, c1, h2⟩
theorem pt_ifExp {tc : TT} {ta tb : TT} (hc : PT X c tc) (ha : PT X a ta) (hb : PT X b tb) : PT X (.IfExp c a b pos) (fun σ H Q => tc σ H fun k H1 => if k = true then ta σ H1 Q else tb σ H1 Q) := by
  refine ⟨fun pn z σ H Q J h => ?_⟩
  refine PyProof.Rows.isTrue_IfExp (thn (hc.run pn z σ H _ J h) fun k s1 ⟨H1, J1, q1⟩ => ?_)
  cases k with
  | true => exact ha.run pn s1 σ H1 Q J1 q1
  | false => exact hb.run pn s1 σ H1 Q J1 q1
theorem t_ite (hc : PT X c (tT g X W tc)) (ha : PT X a (tT g X W ta)) (hb : PT X b (tT g X W tb)) : PT X (.IfExp c a b pos) (tT g X W (.ite tc ta tb)) :=
  ptImp (pt_ifExp hc ha hb) fun σ H Q h => by
    obtain ⟨ρ, env, st, cf, h⟩ := h
    rw [evt_ite] at h
    refine tB_mono (tB_bind cf h) fun k H1 ⟨ρ1, st1, e1, c1, h1⟩ => ?_
    cases k with
    | true => exact ⟨ρ1, env, st1, c1, h1⟩
    | false => exact ⟨ρ1, env, st1, c1, h1⟩
/-- and, or as values -/
theorem pe_andT {ta tb : TE} (ha : PE X a ta) (hb : PE X (.BoolOp .And (b :: rest) pos) tb) : PE X (.BoolOp .And (a :: b :: rest) pos) (fun σ H Q => ta σ H fun x H1 => ∃ k, TruV X.K x H1 k ∧ if k = true then tb σ H1 Q else Q x H1) := by
  refine ⟨fun pn z σ H Q J h => ?_⟩
  refine PyProof.Rows.BoolOp_and (thn (ha.run pn z σ H _ J h) fun v s1 ⟨x, H1, J1, r1, k, q1, q2⟩ => ?_)
  refine thn (tru_ok pn s1 σ H1 x v (fun k' H2 => k' = k ∧ H2 = H1) J1 r1 ⟨k, q1, rfl, rfl⟩) fun k' s2 ⟨H2, J2, ek, eH⟩ => ?_
  subst ek
  subst eH
  cases k' with
  | true => exact hb.run pn s2 σ _ Q J2 q2
  | false => exact ⟨x, _, J2, r1, q2⟩
theorem pe_orT {ta tb : TE} (ha : PE X a ta) (hb : PE X (.BoolOp .Or (b :: rest) pos) tb) : PE X (.BoolOp .Or (a :: b :: rest) pos) (fun σ H Q => ta σ H fun x H1 => ∃ k, TruV X.K x H1 k ∧ if k = true then Q x H1 else tb σ H1 Q) := by
  refine ⟨fun pn z σ H Q J h => ?_⟩
  refine PyProof.Rows.BoolOp_or (thn (ha.run pn z σ H _ J h) fun v s1 ⟨x, H1, J1, r1, k, q1, q2⟩ => ?_)
  refine thn (tru_ok pn s1 σ H1 x v (fun k' H2 => k' = k ∧ H2 = H1) J1 r1 ⟨k, q1, rfl, rfl⟩) fun k' s2 ⟨H2, J2, ek, eH⟩ => ?_
  subst ek
  subst eH
  cases k' with
  | false => exact hb.run pn s2 σ _ Q J2 q2
  | true => exact ⟨x, _, J2, r1, q2⟩
/-- a result as it stands -/
theorem PostX.self {K : PySem.W.Frag} {mg : Str → Option Value} {T : List (Addr × Str)} {Q : VK} {E : XK} {H1 : Hp} {x : Ev.X} {v : V} (h : PostX K mg g ρ H (.ok x st) Q E) (e : Ext K ρ H ρ1 H1) (t : LamX.Tabs g.T H1) (r : ResX K ρ1 H H1 st.objs x v) : Q v H1 := h ρ1 H1 e t v r
theorem s_and (ha : PE X a (tE g X W (ev g.cl ta))) (hb : PE X (.BoolOp .And (b :: rest) pos) (tE g X W (ev g.cl tb))) : PE X (.BoolOp .And (a :: b :: rest) pos) (tE g X W (ev g.cl (.and ta tb))) :=
  peImp (pe_andT ha hb) fun σ H Q h => by
    obtain ⟨ρ, env, st, cf, h⟩ := h
    simp only [ev] at h
    refine tE_mono (tE_bind cf h) fun u H1 ⟨ρ1, x, st1, e1, _, rx, c1, r1, h1⟩ => ?_
    cases ek : truth st1.objs x.d with
    | none => rw [ek] at h1; exact h1.elim
    | some k =>
      rw [ek] at h1
      refine ⟨k, truth_ok c1.sr.st ek r1, ?_⟩
      cases k with
      | true => exact ⟨ρ1, env, st1, c1, Post.imp h1 fun ρ' H' x st e' t f v (rx : ResX X.K ρ' H1 H' st.objs x v) => f v (rx.back e1)⟩
      | false => exact h1 ρ1 H1 .refl c1.sr.tab u rx
theorem s_or (ha : PE X a (tE g X W (ev g.cl ta))) (hb : PE X (.BoolOp .Or (b :: rest) pos) (tE g X W (ev g.cl tb))) : PE X (.BoolOp .Or (a :: b :: rest) pos) (tE g X W (ev g.cl (.or ta tb))) :=
  peImp (pe_orT ha hb) fun σ H Q h => by
    obtain ⟨ρ, env, st, cf, h⟩ := h
    simp only [ev] at h
    refine tE_mono (tE_bind cf h) fun u H1 ⟨ρ1, x, st1, e1, _, rx, c1, r1, h1⟩ => ?_
    cases ek : truth st1.objs x.d with
    | none => rw [ek] at h1; exact h1.elim
    | some k =>
      rw [ek] at h1
      refine ⟨k, truth_ok c1.sr.st ek r1, ?_⟩
      cases k with
      | false => exact ⟨ρ1, env, st1, c1, Post.imp h1 fun ρ' H' x st e' t f v (rx : ResX X.K ρ' H1 H' st.objs x v) => f v (rx.back e1)⟩
      | true => exact h1 ρ1 H1 .refl c1.sr.tab u rx
/-! ### displays -/
variable {es : List Expr} {ts : TL}
def TL.len : TL → Nat
  | .nil => 0
  | .cons _ r => r.len + 1
theorem evs_len {cl : Call} : ∀ {ts : TL} {env : Env} {st st' : St} {ds : List D}, evs cl ts env st = .ok ds st' → ds.length = ts.len
  | .nil, _, _, _, _, h => by simp only [evs] at h; cases h; rfl
  | .cons t r, env, st, st', ds, h => by
    simp only [evs] at h
    cases e : ev cl t env st with
    | rs c w z => rw [e] at h; cases h
    | bad => rw [e] at h; cases h
    | ok x z =>
      rw [e] at h
      cases e2 : evs cl r env z with
      | rs c w z => simp only [R.bind, e2] at h; cases h
      | bad => simp only [R.bind, e2] at h; cases h
      | ok xs z' =>
        simp only [R.bind, e2] at h
        cases h
        simp only [List.length_cons, TL.len, evs_len e2]
theorem s_tup {x1 : Nat} (h : PA X es (tL g X W (evs g.cl ts))) (hz : ts.len ≤ sizeLine) : PE X (.Tuple es x1 pos) (tE g X W (ev g.cl (.tup ts))) :=
  peImp (pe_tup h) fun σ H Q h => by
    obtain ⟨ρ, env, st, cf, h⟩ := h
    simp only [ev] at h
    obtain ⟨ρ', env', st', c', p⟩ := tL_then cf h
    refine ⟨ρ', env', st', c', Post.imp p fun _ _ _ _ _ _ z v s r => ?_⟩
    obtain ⟨ρ1, ds, st1, e1, h1, h2, h3, h4⟩ := z v s r
    exact ⟨by rw [← h3.len, evs_len h1]; exact hz, fun p hp => (PostX.fin h4 rfl).tup h2.sr h3 hp⟩
theorem s_lst (h : PA X es (tL g X W (evs g.cl ts))) (hz : ts.len ≤ sizeLine) : PE X (.List es pos) (tE g X W (ev g.cl (.lst ts))) :=
  peImp (peFresh (pe_lst h)) fun σ H Q h => by
    obtain ⟨ρ, env, st, cf, h⟩ := h
    simp only [ev] at h
    obtain ⟨ρ', env', st', c', p⟩ := tL_then cf h
    refine ⟨ρ', env', st', c', Post.imp p fun _ _ _ _ _ _ z v s r => ?_⟩
    obtain ⟨ρ1, ds, st1, e1, h1, h2, h3, h4⟩ := z v s r
    exact ⟨by rw [← h3.len, evs_len h1]; exact hz, fun p hp hk => (PostX.fin h4 rfl).lst h2.sr h3 hp (hk p _ upd_same)⟩
theorem s_box (ha : PE X a (tE g X W (ev g.cl ta))) : PE X a (tE g X W (ev g.cl (.box ta))) :=
  peImp (peFresh ha) fun σ H Q h => by
    obtain ⟨ρ, env, st, cf, h⟩ := h
    simp only [ev] at h
    refine ⟨ρ, env, st, cf, ?_⟩
    cases e : ev g.cl ta env st with
    | rs c w st1 => rw [e] at h; exact h
    | bad => rw [e] at h; exact h
    | ok x st1 =>
      rw [e] at h
      intro ρ1 H1 e1 t u rx hk
      cases x with
      | v d =>
        cases d with
        | ref k => exact h ρ1 H1 e1 t u rx
        | _ => exact h.elim
      | n ds =>
        obtain ⟨p, vs, rfl, h2, h3, h4, h5, h6⟩ := rx
        refine h (ρ1 ++ [p]) H1 (e1.box h2) t (.ref p) ⟨h5.box h3 h4 h6, ?_⟩
        simp only [Rep]
        exact ⟨p, rfl, by rw [← h5.len]; simp⟩
theorem s_idx (ha : PE X a (tE g X W (ev g.cl ta))) (hb : PE X b (tE g X W (ev g.cl tb))) (hs : PlainIx b) : PE X (.Subscript a b pos) (tE g X W (ev g.cl (.idx ta tb))) :=
  peImp (pe_ix (ix_ok (T := g.T)) ha hb hs) fun σ H Q h => by
    obtain ⟨ρ, env, st, cf, h⟩ := h
    simp only [ev] at h
    refine tE_mono (tE_then cf h) fun u H1 ⟨ρ1, x, st1, _, _, _, c1, r1, h1⟩ => ?_
    refine tE_mono (tE_then c1 h1) fun v H2 ⟨ρ2, y, st2, e2, _, _, c2, r2, h2⟩ => ?_
    obtain ⟨z, hz, fin⟩ := post_ofO h2
    exact ⟨ρ2, st2.objs, x.d, y.d, z, c2.sr, r1.mono e2 (fun _ m => m) e2.av, r2, hz, fin⟩
/-! ### slices -/
def tO (g : Gs) (X : Cx) (W : WX) (f : Env → St → R (Option Int)) : TO := fun σ H Q => ∃ ρ env st, Cfg g X ρ σ H env st ∧ Post X.K X.mg g (fun ρ' H' k st' => Sr X.K g.T ρ' H' st'.objs → Q k H') ρ H (f env st) (WE W σ)
theorem s_no : PO X none (tO g X W (evo g.cl .no)) := ⟨fun pn z σ H Q J h => by
  refine po_none.run pn z σ H Q J ?_
  obtain ⟨ρ, env, st, cf, h⟩ := h
  simp only [evo, part] at h
  show Q none H
  exact h ρ H .refl cf.sr.tab cf.sr⟩
theorem evo_eq {cl : Call} {t : T} (hn : t ≠ .no) (env : Env) (st : St) : evo cl t env st = (ev cl t env st).bind fun x s => asInt x.d s := by
  cases t <;> first | exact absurd rfl hn | simp only [evo, part]
theorem s_some (hn : ta ≠ .no) (ha : PE X a (tE g X W (ev g.cl ta))) : PO X (some a) (tO g X W (evo g.cl ta)) := ⟨fun pn z σ H Q J h => by
  refine (po_some ha).run pn z σ H Q J ?_
  obtain ⟨ρ, env, st, cf, h⟩ := h
  rw [evo_eq hn] at h
  refine tE_mono (tE_bind cf h) fun u H1 ⟨ρ1, x, st1, _, e1, _, c1, r1, h1⟩ => ?_
  unfold asInt at h1
  split at h1
  · rename_i i hd
    rw [hd] at r1
    simp only [Rep] at r1
    exact ⟨i, r1, h1 ρ1 H1 .refl c1.sr.tab c1.sr⟩
  · exact h1.elim⟩
theorem tO_then {Q : VK} {f : Env → St → R (Option Int)} {k : Option Int → St → R Ev.X} (cf : Cfg g X ρ σ H env st) (h : PostX X.K X.mg g ρ H ((f env st).bind k) Q (WE W σ)) :
    tO g X W f σ H fun j H1 => ∃ ρ1 st1, Ext X.K ρ H ρ1 H1 ∧ Cfg g X ρ1 σ H1 env st1 ∧ PostX X.K X.mg g ρ1 H1 (k j st1) Q (WE W σ) := by
  refine ⟨ρ, env, st, cf, ?_⟩
  cases e : f env st with
  | ok o st1 =>
    rw [e] at h
    exact fun ρ' H' ex t s => ⟨ρ', st1, ex, cf.ext ex s, PostX.step ex h⟩
  | rs c' w st1 =>
    rw [e] at h
    exact h
  | bad =>
    rw [e] at h
    exact h
theorem tO_mono {f : Env → St → R (Option Int)} {Q Q' : Option Int → Hp → Prop} (h : tO g X W f σ H Q) (q : ∀ v H', Q v H' → Q' v H') : tO g X W f σ H Q' := by
  obtain ⟨ρ, env, st, c, p⟩ := h
  exact ⟨ρ, env, st, c, Post.imp p fun _ _ _ _ _ _ z s => q _ _ (z s)⟩
theorem s_sl {lo hi : Option Expr} {tl th : T} {p2 : Pos} (ha : PE X a (tE g X W (ev g.cl ta))) (hl : PO X lo (tO g X W (evo g.cl tl))) (hh : PO X hi (tO g X W (evo g.cl th))) : PE X (.Subscript a (.Slice lo hi none p2) pos) (tE g X W (ev g.cl (.sl ta tl th))) :=
  peImp (pe_slice (sl_ok (T := g.T)) ha hl hh) fun σ H Q h => by
    obtain ⟨ρ, env, st, cf, h⟩ := h
    simp only [ev] at h
    change PostX X.K X.mg g ρ H ((ev g.cl ta env st).bind fun x s => (evo g.cl tl env s).bind fun l s => (evo g.cl th env s).bind fun h s => ofO s (slice s.objs x.d l h)) Q (WE W σ) at h
    refine tE_mono (tE_then cf h) fun u H1 ⟨ρ1, x, st1, _, ea, _, c1, r1, h1⟩ => ?_
    refine tO_mono (tO_then c1 h1) fun j H2 ⟨ρ2, st2, e2, c2, h2⟩ => ?_
    refine tO_mono (tO_then c2 h2) fun k H3 ⟨ρ3, st3, e3, c3, h3⟩ => ?_
    obtain ⟨z, hz, fin⟩ := post_ofO h3
    have ex := e2.trans e3
    exact ⟨ρ3, st3.objs, x.d, z, c3.sr, r1.mono ex (fun _ m => m) ex.av, hz, fin⟩
/-! ### argument lists, functions -/
def noStar : Expr → Bool
  | .Starred _ _ => false
  | _ => true
theorem star_cons {e : Expr} {es : List Expr} {env : PySem.Env} (h : noStar e = true) : starEach (e :: es) env = (false, eval e env) :: starEach es env := by
  cases e <;> first | rfl | cases h
theorem star_none {env : PySem.Env} {pos : Pos} : ∀ {es : List Expr}, es.all noStar = true → (backTo pos (starEach es env)).any (·.1) = false
  | [], _ => rfl
  | e :: es, h => by
    simp only [List.all_cons, Bool.and_eq_true] at h
    rw [star_cons h.1]
    simp only [backTo, List.map_cons, List.any_cons, Bool.false_or]
    exact star_none h.2
theorem s_nil : PA X [] (tL g X W (evs g.cl .nil)) := ⟨fun ps pn z σ H Q J h => by
  refine pa_nil.run ps pn z σ H Q J ?_
  obtain ⟨ρ, env, st, cf, h⟩ := h
  simp only [evs] at h
  exact h ρ H .refl cf.sr.tab [] cf.sr Reps.nil⟩
theorem tL_mono {f : Env → St → R (List D)} {Q Q' : List V → Hp → Prop} (h : tL g X W f σ H Q) (q : ∀ v H', Q v H' → Q' v H') : tL g X W f σ H Q' := by
  obtain ⟨ρ, env, st, c, p⟩ := h
  exact ⟨ρ, env, st, c, Post.imp p fun _ _ _ _ _ _ z v s r => q _ _ (z v s r)⟩
theorem s_cons {es : List Expr} {ts : TL} (ha : PE X a (tE g X W (ev g.cl ta))) (hr : PA X es (tL g X W (evs g.cl ts))) (hs : noStar a = true) : PA X (a :: es) (tL g X W (evs g.cl (.cons ta ts))) := ⟨fun ps pn z σ H Q J h => by
  refine (pa_cons ha hr (star_cons hs)).run ps pn z σ H Q J ?_
  obtain ⟨ρ, env, st, cf, h⟩ := h
  simp only [evs] at h
  refine tE_mono (tE_bind cf h) fun u H1 ⟨ρ1, x, st1, _, ea, _, c1, r1, h1⟩ => ?_
  refine tL_mono (tL_bind c1 h1) fun us H2 ⟨ρ2, ds, st2, e2, _, c2, r2, h2⟩ => ?_
  exact h2 ρ2 H2 .refl c2.sr.tab (u :: us) c2.sr (Reps.cons (r1.mono e2 (fun _ m => m) e2.av) r2)⟩
/-- a call of a built-in, by its rule -/
theorem tCB_of {ts : TL} {r : List V → Hp → VK → Prop} {b : Bi} (hr : ∀ us H Q, rC X.K g.T (fun objs ds => bi objs b ds) us H Q → r us H Q) {Q : VK} (h : tE g X W (ev g.cl (.bc b ts)) σ H Q) : tCB r (tL g X W (evs g.cl ts)) σ H Q := by
  obtain ⟨ρ, env, st, cf, h⟩ := h
  simp only [ev] at h
  refine tL_mono (tL_then cf h) fun us H1 ⟨ρ1, ds, st1, _, _, c1, r1, h1⟩ => ?_
  obtain ⟨z, hz, fin⟩ := post_ofO h1
  exact hr _ _ _ ⟨ρ1, st1.objs, ds, z, c1.sr, r1, hz, fin⟩
theorem s_fn {b : Bi} {id : String} {x : Str} {p : Pos} {es : List Expr} {ts : TL} (hc : CallR X (.builtin id) (rC X.K g.T fun objs ds => bi objs b ds)) (hg : Gl X x) (hm : X.mg x = none) (hv : bootBuiltins x = some (.builtin id)) (ha : PA X (e :: es) (tL g X W (evs g.cl ts)))
    (hs : noStar e = true) (hs2 : es.all noStar = true) (hn : x ≠ "__name__" := by decide) (hd : (x == ("__debug__" : Str)) = false := by decide) : PE X (.Call (.Name x p) (e :: es) [] pos) (tE g X W (ev g.cl (.bc b ts))) :=
  peImp (pe_callB hc hg hm hv ha hn hd (star_cons hs) (star_none hs2)) fun σ H Q h => tCB_of (fun _ _ _ h => h) h
theorem s_ty {b : Bi} {id : String} {x : Str} {p : Pos} {es : List Expr} {ts : TL} (hc : CallR X (.type id) (rC X.K g.T fun objs ds => bi objs b ds)) (hg : Gl X x) (hm : X.mg x = none) (hv : bootBuiltins x = some (.type id)) (ha : PA X (e :: es) (tL g X W (evs g.cl ts)))
    (hs : noStar e = true) (hs2 : es.all noStar = true) (hn : x ≠ "__name__" := by decide) (hd : (x == ("__debug__" : Str)) = false := by decide) : PE X (.Call (.Name x p) (e :: es) [] pos) (tE g X W (ev g.cl (.bc b ts))) :=
  peImp (pe_callTy hc hg hm hv ha hn hd (star_cons hs) (star_none hs2)) fun σ H Q h => tCB_of (fun _ _ _ h => h) h
theorem s_gcd {x : Str} {p : Pos} {es : List Expr} {ts : TL} (hg : Gl X x) (hm : X.mg x = some (.builtin "math.gcd")) (ha : PA X (e :: es) (tL g X W (evs g.cl ts)))
    (hs : noStar e = true) (hs2 : es.all noStar = true) (hd : (x == ("__debug__" : Str)) = false) : PE X (.Call (.Name x p) (e :: es) [] pos) (tE g X W (ev g.cl (.bc .gcd ts))) :=
  peImp (pe_callBfun cb_gcd hg hm ha hd (star_cons hs) (star_none hs2)) fun σ H Q h => tCB_of (fun _ _ _ h => h) h
/-- isinstance(e, T) -/
theorem s_isinst {b : Bi} {t : String} {tn : Str} {p p2 : Pos} (hb : isK b = some t) (hg : Gl X "isinstance") (hm : X.mg "isinstance" = none) (hg2 : Gl X tn) (hm2 : X.mg tn = none) (hv2 : bootBuiltins tn = some (.type t)) (hn2 : tn ≠ "__name__") (hd2 : (tn == ("__debug__" : Str)) = false)
    (ha : PE X a (tE g X W (ev g.cl ta))) (hs : noStar a = true) : PE X (.Call (.Name "isinstance" p) [a, .Name tn p2] [] pos) (tE g X W (ev g.cl (.bc b (.cons ta .nil)))) :=
  peImp (pe_callB (cb_isinst (T := g.T) hb) hg hm PyProof.Rows.boot_isinstance (pa_cons ha (pa_cons (pe_bltn (v := .ty t) hg2 hm2 hv2 rfl hn2 hd2) pa_nil rfl) (star_cons hs)) (by decide) (by decide) (star_cons hs) rfl) fun σ H Q h => by
    obtain ⟨ρ, env, st, cf, h⟩ := h
    simp only [ev, evs] at h
    have h' : PostX X.K X.mg g ρ H ((ev g.cl ta env st).bind fun x s => ofO s (bi s.objs b [x.d])) Q (WE W σ) := by
      cases q : ev g.cl ta env st with
      | ok x s => rw [q] at h; exact h
      | rs c w s => rw [q] at h; exact h
      | bad => rw [q] at h; exact h
    refine tE_mono (tE_then cf h') fun u H1 ⟨ρ1, x, st1, _, ea, _, c1, r1, h1⟩ => ?_
    obtain ⟨z, hz, fin⟩ := post_ofO h1
    exact ⟨ρ1, st1.objs, x.d, u, z, rfl, c1.sr, r1, hz, fin⟩
/-! ### methods of lists -/
theorem listTy {K : PySem.W.Frag} {objs : List Ob} {n : Nat} {u : V} (s : StRel K ρ ρ H objs) (r : Rep K ρ ρ H (.ref n) u) : tyV K "list" u H := by
  simp only [Rep] at r
  obtain ⟨p, rfl, hp⟩ := r
  obtain ⟨ds, vs, _, e2, _⟩ := s.ob hp
  exact .inl ⟨rfl, vs, SqL.of e2⟩
/-- o.m(..) of a list -/
theorem tBM_of {m : Mt} {ts : TL} {r : V → List V → Hp → VK → Prop} (hr : ∀ u us H Q, rM X.K g.T m u us H Q → r u us H Q) {Q : VK} (h : tE g X W (ev g.cl (.mt m ta ts)) σ H Q) : tBM X.K "list" r (tE g X W (ev g.cl ta)) (tL g X W (evs g.cl ts)) σ H Q := by
  obtain ⟨ρ, env, st, cf, h⟩ := h
  simp only [ev] at h
  refine tE_mono (tE_then cf h) fun u H1 ⟨ρ1, x, st1, _, _, _, c1, r1, h1⟩ => ?_
  cases ex : x.d with
  | ref n =>
    rw [ex] at h1 r1
    refine ⟨listTy c1.sr.st r1, tL_mono (tL_then c1 h1) fun us H2 ⟨ρ2, ds, st2, e2, _, c2, r2, h2⟩ => ?_⟩
    refine hr _ _ _ _ ⟨ρ2, st2, n, ds, c2.sr, r1.mono e2 (fun _ m => m) e2.av, r2, ?_⟩
    cases em : mt st2 m n ds with
    | ok y st3 => rw [em] at h2; exact fun ρ' H' v e t r => h2 ρ' H' e t v r
    | rs c w st3 =>
      exfalso
      unfold mt at em
      split at em
      · cases m <;> simp only at em <;> (repeat' split at em) <;> cases em
      · cases em
    | bad => rw [em] at h2; exact h2.elim
  | _ => rw [ex] at h1; exact h1.elim
theorem s_mt {m : Mt} {name : Str} {id : String} {ts : TL} {es : List Expr} {apos cpos : Pos} (slot : Slot "list" name id) (hty : typeOf (.builtin id) = pure (.type "method_descriptor")) (hm : MtM X id (rM X.K g.T m)) (ha : PE X a (tE g X W (ev g.cl ta))) (hb : PA X (e :: es) (tL g X W (evs g.cl ts)))
    (hbase : attributeBase a name X.env (eval a X.env) = eval a X.env) (hz : (e :: es).length < 30) (hs : noStar e = true) (hs2 : es.all noStar = true) (hl : (apos.endLine == cpos.line) = true) (pa : PlainAttrs "list") : PE X (.Call (.Attribute a name apos) (e :: es) [] cpos) (tE g X W (ev g.cl (.mt m ta ts))) := by
  refine peImp (pe_bm pa slot hty hm ha hb hbase ?_ hl (star_cons hs) (star_none hs2)) fun σ H Q h => tBM_of (fun _ _ _ _ h => h) h
  have q : ∀ {l : List Expr}, l.all noStar = true → (backTo cpos (starEach l X.env)).all (fun x => !x.1) = true := by
    intro l
    induction l with
    | nil => intro _; rfl
    | cons b l ih =>
      intro h
      simp only [List.all_cons, Bool.and_eq_true] at h
      rw [star_cons h.1]
      simp only [backTo, List.map_cons, List.all_cons, Bool.not_false, Bool.true_and]
      exact ih h.2
  rw [q (l := e :: es) (by simp only [List.all_cons, hs, hs2, Bool.and_self])]
  simpa [backToKw, keywordEach] using hz
theorem s_mt0 {m : Mt} {name : Str} {id : String} {apos cpos : Pos} (slot : Slot "list" name id) (hty : typeOf (.builtin id) = pure (.type "method_descriptor")) (hm : MtM X id (rM X.K g.T m)) (ha : PE X a (tE g X W (ev g.cl ta)))
    (hbase : attributeBase a name X.env (eval a X.env) = eval a X.env) (hl : (apos.endLine == cpos.line) = true) (pa : PlainAttrs "list") : PE X (.Call (.Attribute a name apos) [] [] cpos) (tE g X W (ev g.cl (.mt m ta .nil))) :=
  peImp (pe_bm0 pa slot hty hm ha hbase hl) fun σ H Q h => by
    have q := tBM_of (r := rM X.K g.T m) (fun _ _ _ _ h => h) h
    refine tE_mono q fun u H1 ⟨h1, h2⟩ => ⟨h1, ?_⟩
    obtain ⟨ρ, env, st, cf, p⟩ := h2
    simp only [evs] at p
    exact p ρ H1 .refl cf.sr.tab [] cf.sr Reps.nil
end
end Ev

set_option Elab.async false
set_option linter.all false
set_option maxRecDepth 100000
/-! Ev9: calls -/
namespace Ev
open PySem L2
/-- what is called lies at a -/
def CalAt (K : PySem.W.Frag) (mg : Str → Option Value) (inf : Inf) (ρ : List Addr) (H : Hp) (h : Heap) (fs : List Addr) : Cal → Addr → Prop
  | .fn f, a => ∃ fi, inf.fns[f]? = some fi ∧ mg fi.name = some (.ref a)
  | .lam l ws, a => CloAt K mg inf ρ ρ H h H fs l ws a
/-- the arguments -/
structure ArgsR (K : PySem.W.Frag) (mg : Str → Option Value) (inf : Inf) (ρ : List Addr) (H : Hp) (h : Heap) (fs : List Addr) (as : List Sl) (vs : List V) : Prop where
  len : as.length = vs.length
  at_ : ∀ (i : Nat) w, as[i]? = some w → SlA K mg inf ρ ρ H h H fs w (vs[i]?)
/-- the oracle is right, n calls deep -/
def ClOk (g : Gs) (prog : Program) (w : World) (K : PySem.W.Frag) (mg : Str → Option Value) (base : Heap) (n : Nat) : Prop :=
  ∀ (A : Around) (outer : List PySem.Env) (s : Shared) (H : Hp) (ρ : List Addr) (st : St) (c : Cal) (a : Addr) (as : List Sl) (vs : List V) (us : List Value) (Q : VK) (E : XK),
    Room n A → A.guards = some [] → Env0 prog w K mg base A outer s H → Sr K g.T ρ H st.objs → CalAt K mg g.inf ρ H s.heap (frs outer) c a → ArgsR K mg g.inf ρ H s.heap (frs outer) as vs → Vals vs us →
    PostX K mg g ρ H (g.cl c as st) Q E → codeAny (model prog w) A (.call (.ref a) ⟨us, []⟩) (CR (L2.CX prog w) outer prog w H s Q E) s
section
variable {g : Gs} {X : Cx} {W : WX} {n : Nat}
/-- the call itself -/
theorem run_cl {pins : List (Addr × Obj)} {σ : L2.St} {H : Hp} {s : Shared} {ρ : List Addr} {st : St} {c : Cal} {a : Addr} {as : List Sl} {vs : List V} {us : List Value} {Q : VK} (ok : ClOk g X.prog X.w X.K X.mg X.base n) (hr : Room n X.A) (hg : X.A.guards = some []) (tk : Takes X W) (J : Inv X pins σ H s)
    (sr : Sr X.K g.T ρ H st.objs) (hc : CalAt X.K X.mg g.inf ρ H s.heap (frs X.stack) c a) (ha : ArgsR X.K X.mg g.inf ρ H s.heap (frs X.stack) as vs) (rv : Vals vs us) (h : PostX X.K X.mg g ρ H (g.cl c as st) Q (WE W σ)) : wpAny (model X.prog X.w) X.A (call (.ref a) us) (EP X pins σ Q) X.xe s := by
  refine wpAny_call (codeAny_mono (ok X.A X.stack s H ρ st c a as vs us Q (WE W σ) hr hg J.env0 sr hc ha rv h) fun r s' q => ?_)
  cases r with
  | error e => exact passAt tk σ pins H s e s' J q
  | ok fl =>
    cases fl with
    | ret u => exact J.after q
    | next => exact False.elim q
    | brk => exact False.elim q
    | cont => exact False.elim q
/-- the arguments of a call, from the left; the state is told too -/
def PAx (g : Gs) (X : Cx) (W : WX) (es : List Expr) (ts : TL) : Prop :=
  ∀ (pos : Pos) (pins : List (Addr × Obj)) (s : Shared) (σ : L2.St) (H : Hp) (ρ : List Addr) (env : Env) (st : St) (Q : List Value → Shared → Prop) (k : List Sl → St → R Ev.X) (ok : List Addr → Hp → Ev.X → St → Prop), Inv X pins σ H s → Cfg g X ρ σ H env st →
    Post X.K X.mg g ok ρ H ((eva g.cl ts env st).bind k) (WE W σ) →
    (∀ us s' vs ρ' H' as st', Inv X pins σ H' s' → Vals vs us → Ext X.K ρ H ρ' H' → Cfg g X ρ' σ H' env st' → ArgsR X.K X.mg g.inf ρ' H' s'.heap (frs X.stack) as vs → Post X.K X.mg g ok ρ' H' (k as st') (WE W σ) → Q us s') →
    wpAny (model X.prog X.w) X.A (spliced (backTo pos (starEach es X.env))) Q X.xe s
theorem x_nil : PAx g X W [] .nil := fun pos pins s σ H ρ env st Q k ok J cf h q => by
  simp only [eva] at h
  exact Calls.spliced_nil (q [] s [] ρ H [] st J .nil .refl cf ⟨rfl, fun i w e => by simp at e⟩ h)
theorem SlA.ext {K : PySem.W.Frag} {mg : Str → Option Value} {inf : Inf} {ρ ρ' : List Addr} {H H' : Hp} (e : Ext K ρ H ρ' H') {d : D} {v : V} (r : Rep K ρ ρ H d v) (h : Heap) (H0 : Hp) (fs : List Addr) : SlA K mg inf ρ' ρ' H' h H0 fs (.val d) (some v) :=
  ⟨v, rfl, r.mono e (fun _ m => m) e.av⟩
theorem ArgsR.cons {K : PySem.W.Frag} {mg : Str → Option Value} {inf : Inf} {ρ : List Addr} {H : Hp} {h : Heap} {fs : List Addr} {as : List Sl} {vs : List V} {w : Sl} {v : V} (a : SlA K mg inf ρ ρ H h H fs w (some v)) (r : ArgsR K mg inf ρ H h fs as vs) : ArgsR K mg inf ρ H h fs (w :: as) (v :: vs) :=
  ⟨by simp [r.len], fun i z e => by
    cases i with
    | zero =>
      simp only [List.getElem?_cons_zero, Option.some.injEq] at e
      subst e
      exact a
    | succ i => exact r.at_ i z (by simpa using e)⟩
/-- a plain expression is evaluated as such -/
def plainA : T → Bool
  | .fn _ => false
  | .lam _ _ => false
  | .loc _ => false
  | _ => true
theorem eva_plain {cl : Call} {t : T} {r : TL} (h : plainA t = true) (env : Env) (st : St) : eva cl (.cons t r) env st = (ev cl t env st).bind fun x s => (eva cl r env s).bind fun as s => .ok (.val x.d :: as) s := by
  cases t <;> first | rfl | simp only [plainA, Bool.false_eq_true] at h
theorem bind_assoc {α β γ : Type} (r : R α) (f : α → St → R β) (k : β → St → R γ) : (r.bind f).bind k = r.bind fun a s => (f a s).bind k := by
  cases r <;> rfl
theorem x_cons {a : Expr} {ta : T} {es : List Expr} {ts : TL} (hp : plainA ta = true) (ha : PE X a (tE g X W (ev g.cl ta))) (hr : PAx g X W es ts) (hs : noStar a = true) : PAx g X W (a :: es) (.cons ta ts) := fun pos pins s σ H ρ env st Q k ok J cf h q => by
  rw [eva_plain hp, bind_assoc] at h
  rw [star_cons hs]
  show wpAny _ _ (spliced ((false, eval a X.env) :: backTo pos (starEach es X.env))) _ _ s
  refine Calls.spliced_cons (thn (ha.run pins s σ H _ J (tE_bind cf h)) fun u s1 ⟨v, H1, J1, r1, ρ1, x, st1, e1, _, _, c1, rx, h1⟩ => ?_)
  rw [bind_assoc] at h1
  refine hr pos pins s1 σ H1 ρ1 env st1 _ _ ok J1 c1 h1 fun us s' vs ρ' H' as st' J' rv ex cf' ar p => ?_
  exact q (u :: us) s' (v :: vs) ρ' H' _ st' J' (.cons r1 rv) (e1.trans ex) cf' (.cons (SlA.ext ex rx _ _ _) ar) p
/-- a name: what its slot holds -/
theorem x_loc {i : Nat} {x : Str} {p : Pos} {es : List Expr} {ts : TL} (hN : X.N[i]? = some x) (hv : Vis X.env.scope x) (hd : (x == ("__debug__" : Str)) = false) (hcd : (x == ("__classdict__" : Str)) = false) (hr : PAx g X W es ts) : PAx g X W (.Name x p :: es) (.cons (.loc i) ts) := fun pos pins s σ H ρ env st Q k ok J cf h q => by
  show wpAny _ _ (spliced ((false, eval (.Name x p) X.env) :: backTo pos (starEach es X.env))) _ _ s
  have gen : ∀ {w : Sl} {v : V}, env[i]? = some w → σ[i]? = some (some v) → Post X.K X.mg g ok ρ H ((eva g.cl ts env st).bind fun as s => k (w :: as) s) (WE W σ) → (∀ {ρ' : List Addr} {H' : Hp} {s' : Shared}, Inv X pins σ H' s' → Ext X.K ρ H ρ' H' → SlA X.K X.mg g.inf ρ' ρ' H' s'.heap H' (frs X.stack) w (some v)) →
      wpAny (model X.prog X.w) X.A (spliced ((false, eval (.Name x p) X.env) :: backTo pos (starEach es X.env))) Q X.xe s := fun {w v} e1 e2 h hw => by
    refine Calls.spliced_cons (thn ((pe_var hN hv hd hcd).run pins s σ H (fun v' H' => v' = v ∧ H' = H) J ⟨v, e2, rfl, rfl⟩) fun u s1 ⟨v', H1, J1, r1, e3, e4⟩ => ?_)
    subst e3
    subst e4
    refine hr pos pins s1 σ H1 ρ env st _ _ ok J1 cf h fun us s' vs ρ' H' as st' J' rv ex cf' ar p => ?_
    exact q (u :: us) s' (v' :: vs) ρ' H' _ st' J' (.cons r1 rv) ex cf' (.cons (hw J' ex) ar) p
  simp only [eva] at h
  cases e : env[i]? with
  | none => rw [e] at h; exact h.elim
  | some w =>
    rw [e] at h
    have a := cf.env.at_ i w e
    cases w with
    | no => exact h.elim
    | val d =>
      obtain ⟨v, h1, h2⟩ := a
      rw [bind_assoc] at h
      exact gen e (NdefX.slotAt_some h1) h fun J' ex => SlA.ext ex h2 _ _ _
    | fn f =>
      obtain ⟨b, fi, h1, h2⟩ := a
      rw [bind_assoc] at h
      exact gen e (NdefX.slotAt_some h1) h fun J' ex => ⟨b, fi, rfl, h2⟩
    | lam l ws =>
      obtain ⟨b, h1, h2⟩ := a
      rw [bind_assoc] at h
      refine gen e (NdefX.slotAt_some h1) h fun J' ex => ⟨b, rfl, ?_⟩
      exact CloAt.later J' (cf.env.nl.resolve_right fun z => z i l ws e) (h2.mono ex (fun _ m => m) ex.av)
/-- a def's name -/
theorem x_fn {f : Nat} {fi : FnI} {a : Addr} {p : Pos} {es : List Expr} {ts : TL} (hf : g.inf.fns[f]? = some fi) (hg : Gl X fi.name) (hm : X.mg fi.name = some (.ref a)) (hd : (fi.name == ("__debug__" : Str)) = false) (hr : PAx g X W es ts) : PAx g X W (.Name fi.name p :: es) (.cons (.fn f) ts) := fun pos pins s σ H ρ env st Q k ok J cf h q => by
  show wpAny _ _ (spliced ((false, eval (.Name fi.name p) X.env) :: backTo pos (starEach es X.env))) _ _ s
  simp only [eva, bind_assoc] at h
  refine Calls.spliced_cons (ld_glob J hg hm ?_ hd)
  refine hr pos pins s σ H ρ env st _ _ ok J cf h fun us s' vs ρ' H' as st' J' rv ex cf' ar p => ?_
  exact q (.ref a :: us) s' (.ref a :: vs) ρ' H' _ st' J' (.cons rfl rv) ex cf' (ArgsR.cons (w := .fn f) ⟨a, fi, rfl, hf, hm⟩ ar) p
/-- f(..) -/
theorem s_call {f : Nat} {fi : FnI} {a : Addr} {p pos : Pos} {e : Expr} {es : List Expr} {ts : TL} (ok : ClOk g X.prog X.w X.K X.mg X.base n) (hr : Room n X.A) (hgd : X.A.guards = some []) (tk : Takes X W) (hf : g.inf.fns[f]? = some fi) (hg : Gl X fi.name) (hm : X.mg fi.name = some (.ref a)) (hk : PySem.W.keepIn X.K (.ref a) = true)
    (hd : (fi.name == ("__debug__" : Str)) = false) (ha : PAx g X W (e :: es) ts) (hs : noStar e = true) (hs2 : es.all noStar = true) : PE X (.Call (.Name fi.name p) (e :: es) [] pos) (tE g X W (ev g.cl (.call f ts))) := ⟨fun pn z σ H Q J h => by
  obtain ⟨ρ, env, st, cf, h⟩ := h
  simp only [ev] at h
  refine wpAny_Call_Name_kw (ld_glob J hg hm ?_ hd)
  refine PySem.W.callWith_K (h₀ := X.base) J.ok.mod.kin hk ?_ (star_cons hs) (star_none hs2)
  refine ha pos pn z σ H ρ env st _ _ _ J cf h fun us s' vs ρ' H' as st' J' rv ex cf' ar p => ⟨J'.kIn, ?_⟩
  exact run_cl (c := .fn f) ok hr hgd tk J' cf'.sr ⟨fi, hf, hm⟩ ar rv (Post.imp p fun ρ2 H2 x st e' t f v rx => f v (rx.back ex))⟩
theorem s_call0 {f : Nat} {fi : FnI} {a : Addr} {p pos : Pos} (ok : ClOk g X.prog X.w X.K X.mg X.base n) (hr : Room n X.A) (hgd : X.A.guards = some []) (tk : Takes X W) (hf : g.inf.fns[f]? = some fi) (hg : Gl X fi.name) (hm : X.mg fi.name = some (.ref a)) (hk : PySem.W.keepIn X.K (.ref a) = true)
    (hd : (fi.name == ("__debug__" : Str)) = false) : PE X (.Call (.Name fi.name p) [] [] pos) (tE g X W (ev g.cl (.call f .nil))) := ⟨fun pn z σ H Q J h => by
  obtain ⟨ρ, env, st, cf, h⟩ := h
  simp only [ev, eva] at h
  refine wpAny_Call_Name_kw (ld_glob J hg hm ?_ hd)
  exact PySem.W.callWith_K0 J.kIn hk (run_cl (c := .fn f) (us := []) ok hr hgd tk J cf.sr ⟨fi, hf, hm⟩ ⟨rfl, fun i w e => by simp at e⟩ .nil h)⟩
/-- what is known of a def of the text -/
def FnFact (K : PySem.W.Frag) (mg : Str → Option Value) (fi : FnI) : Prop :=
  ∃ (a : Addr) (oc : Value) (od : Option Addr) (osl : Array (Option Value)) (params : Arguments) (dV kV doc pm cdv ct : Value) (an : Option Addr), mg fi.name = some (.ref a) ∧ PySem.W.keepIn K (.ref a) = true ∧
    K.lookup a = some ⟨oc, od, .func (PySem.W.fnOf fi.name fi.name params fi.body fi.scope dV kV doc pm an cdv ct), osl⟩ ∧ PySem.W.codeIn K cdv fi.name = true ∧ Binds K (PySem.W.fnOf fi.name fi.name params fi.body fi.scope dV kV doc pm an cdv ct) fi.ps []
/-- a closure's object is a function -/
theorem CloAt.fnAt {K : PySem.W.Frag} {mg : Str → Option Value} {inf : Inf} {ρ α fs : List Addr} {H H0 : Hp} {h : Heap} {l : Nat} {ws : List Sl} {a : Addr} (c : CloAt K mg inf ρ α H h H0 fs l ws a) : PySem.W.FnAt a h := by
  obtain ⟨li, cl, c', pm, ctv, vs, h1, h2, _⟩ := c
  exact ⟨_, _, _, _, h2⟩
theorem slot_at {pins : List (Addr × Obj)} {σ : L2.St} {H : Hp} {s : Shared} {ρ : List Addr} {env : Env} {st : St} {i : Nat} {w : Sl} (cf : Cfg g X ρ σ H env st) (e : env[i]? = some w) : SlA X.K X.mg g.inf ρ ρ H X.s_0.heap X.H_0 X.fs w (NdefX.slotAt σ i) := cf.env.at_ i w e
/-- x(), x a name of the frame -/
theorem s_callv0 {i : Nat} {x : Str} {p pos : Pos} (ok : ClOk g X.prog X.w X.K X.mg X.base n) (hr : Room n X.A) (hgd : X.A.guards = some []) (tk : Takes X W) (ff : ∀ (f : Nat) (fi : FnI), g.inf.fns[f]? = some fi → FnFact X.K X.mg fi) (hN : X.N[i]? = some x) (hv : Vis X.env.scope x) (hd : (x == ("__debug__" : Str)) = false) (hcd : (x == ("__classdict__" : Str)) = false) :
    PE X (.Call (.Name x p) [] [] pos) (tE g X W (ev g.cl (.callv i .nil))) := ⟨fun pn z σ H Q J h => by
  obtain ⟨ρ, env, st, cf, h⟩ := h
  simp only [ev, eva] at h
  cases e : env[i]? with
  | none => rw [e] at h; exact h.elim
  | some w =>
    rw [e] at h
    have a := cf.env.at_ i w e
    have nm : ∀ {v : V}, NdefX.slotAt σ i = some v → wpAny (model X.prog X.w) X.A (eval (.Name x p) X.env) (EP X pn σ fun v' H' => v' = v ∧ H' = H) X.xe z := fun {v} e2 => (pe_var hN hv hd hcd).run pn z σ H _ J ⟨v, NdefX.slotAt_some e2, rfl, rfl⟩
    cases w with
    | no => exact h.elim
    | val d => exact h.elim
    | fn f =>
      obtain ⟨b, fi, h1, h2, h3⟩ := a
      obtain ⟨b', _, _, _, _, _, _, _, _, _, _, _, k1, k2, _⟩ := ff f fi h2
      rw [h3] at k1
      cases k1
      refine wpAny_Call_Name_kw (thn (nm h1) fun u s1 ⟨v', H1, J1, r1, e3, e4⟩ => ?_)
      subst e3
      subst e4
      obtain rfl : u = Value.ref b := r1
      exact PySem.W.callWith_K0 J1.kIn k2 (run_cl (c := .fn f) (us := []) ok hr hgd tk J1 cf.sr ⟨fi, h2, h3⟩ ⟨rfl, fun i w e => by simp at e⟩ .nil h)
    | lam l ws =>
      obtain ⟨b, h1, h2⟩ := a
      refine wpAny_Call_Name_kw (thn (nm h1) fun u s1 ⟨v', H1, J1, r1, e3, e4⟩ => ?_)
      subst e3
      subst e4
      obtain rfl : u = Value.ref b := r1
      have c2 := CloAt.later J1 (cf.env.nl.resolve_right fun z => z i l ws e) h2
      exact PySem.W.callWith_F0 c2.fnAt (run_cl (c := .lam l ws) (us := []) ok hr hgd tk J1 cf.sr c2 ⟨rfl, fun i w e => by simp at e⟩ .nil h)⟩
/-- f(lambda: ..) -/
def tabOf (X : Cx) (T : List (Addr × Str)) : Prop := ∃ c P, X.env.code = .ref c ∧ LamX.TabB X.base X.mg c P ∧ (P, X.env.qual ++ "<lambda>") ∈ T ∧ ∀ p ∈ T, p.1 = P → p.2 = X.env.qual ++ "<lambda>"
theorem capt_rel {σ : L2.St} {H : Hp} {ρ : List Addr} {env : Env} {st : St} (cf : Cfg g X ρ σ H env st) : ∀ (js : List Nat) (i : Nat) w, (capt env js)[i]? = some w → Sl0 X.K X.mg g.inf ρ ρ H w (NdefX.slotAt (js.map (NdefX.slotAt σ)) i) := fun js i w e => by
  unfold capt at e
  rw [List.getElem?_map] at e
  cases ej : js[i]? with
  | none => rw [ej] at e; cases e
  | some j =>
    rw [ej] at e
    have e2 : Sl.keep env[j]? = w := Option.some.inj e
    have sl : NdefX.slotAt (js.map (NdefX.slotAt σ)) i = NdefX.slotAt σ j := by
      unfold NdefX.slotAt
      rw [List.getElem?_map, ej]
      rfl
    rw [sl, ← e2]
    cases ek : env[j]? with
    | none => trivial
    | some w' =>
      have a := cf.env.at_ j w' ek
      cases w' with
      | no => trivial
      | val d => exact a
      | fn f => exact a
      | lam l ws => trivial
theorem x_lam {l : Nat} {cap : List Nat} {li : LamI} {args : Arguments} {body : Expr} {scope : Scope} {lp : Pos} (hl : g.inf.lams[l]? = some li) (h1 : li.qual = X.env.qual) (h2 : li.args = args) (h3 : li.body = body) (h4 : li.scope = scope) (ht : tabOf X g.T) (hdef : defaultsOf args X.env = ([], []))
    (hfree : ∀ y ∈ scope.names, y.2 = .free → X.env.scope.names.lookup y.1 = some .cell ∨ X.env.scope.names.lookup y.1 = some .free) (hfr : ∀ y ∈ li.fr, (y, NameKind.free) ∈ scope.names) (hjs : cap.map (fun j => X.N[j]?) = li.fr.map some) :
    PAx g X W [.Lambda args body scope lp] (.cons (.lam l cap) .nil) := fun pos pins s σ H ρ env st Q k ok J cf h q => by
  obtain ⟨c, P, t1, t2, t3, t4⟩ := ht
  subst h2 h3 h4
  show wpAny _ _ (spliced ((false, eval (.Lambda li.args li.body li.scope lp) X.env) :: backTo pos (starEach [] X.env))) _ _ s
  simp only [eva, R.bind] at h
  have hf : ∀ y ∈ li.scope.names, y.2 = .free → ∃ c, X.env.cells.lookup y.1 = some c := fun y hy e => (hfree y hy e).elim (fun z => J.ok.has _ (.inl z)) fun z => J.ok.has _ (.inr z)
  refine Calls.spliced_cons (LamX.lam_make2 J t2 t1 t3 t4 cf.sr.tab hdef hf fun f c' pm ctv H1 s' J1 eN T1 e1 e2 e3 e4 => ?_)
  refine Calls.spliced_nil ?_
  have ex : Ext X.K ρ H ρ H1 := ⟨List.prefix_refl _, fun _ m => .inl m, fun a o e _ n => eN a o e n, fun a o e n => ⟨o, eN a o e n, n⟩⟩
  have sr1 : Sr X.K g.T ρ H1 st.objs := ⟨cf.sr.st.keep ex (fun a m => by
    obtain ⟨vs, e⟩ := cf.sr.st.mem m
    rw [e]
    exact eN a _ e fun _ z => nomatch z) (fun _ m => m) fun _ m => .inl m, T1⟩
  have cf1 := cf.ext (st' := st) ex sr1
  have caps := NdefX.Caps.made (X := X) (fr := li.fr) (js := cap) J.ok hfree hfr hjs
  have cells := NdefX.cells_of J1 caps
  refine q [.ref f] s' [.ref f] ρ H1 _ st J1 (.cons rfl .nil) ex cf1 (ArgsR.cons (w := .lam l (capt env cap)) ⟨f, rfl, li, _, c', pm, ctv, _, hl, by rw [h1]; exact e1, e2, e3, by rw [h1]; exact e4, cells, by simp [capt], capt_rel cf1 cap⟩ ⟨rfl, fun i w e => by simp at e⟩) (Post.step ex h)
end
end Ev

set_option Elab.async false
set_option linter.all false
set_option maxRecDepth 100000
/-! Ev10: what is walked -/
namespace Ev
open PySem L2
/-! ### enumerate(tuple) -/
set_option maxHeartbeats 1100000 in
theorem meets_enum1 {v : Value} {o : Obj} {G : Heap → Prop} (B : Begins v o G) :
    Meets (Builtin.«enumerate.__new__» ⟨[.type "enumerate", v], []⟩) (fun _ R s => G s.heap ∧
      R (.ok (.ret (.ref (s.heap.push o).objs.size))) { s with heap := (s.heap.push o).push { cls := .type "enumerate", data := .fields #[.none, .bool false, .ref s.heap.objs.size, rawInt 0, .none, .none] } }) :=
  .of_wp fun prog w A R s h => by
    obtain ⟨hp, g, d, tk, os⟩ := s
    obtain ⟨g1, hr⟩ := h
    have e1 := sub_enumerate
    have e2 : ∀ {A' : Around} {E : Value → Shared → Prop} {Q : Value → Shared → Prop}, Q (.ref hp.objs.size) ⟨hp.push o, g, d, tk, os⟩ → wpAny (model prog w) A' (pyIter v) Q E ⟨hp, g, d, tk, os⟩ :=
      fun q => B.iter prog w _ _ ⟨hp, g, d, tk, os⟩ _ g1 q
    wp_walk using e2
    refine wpAny_stack_any fun st => wpAny_pure ?_
    split
    · rename_i c _ _ _ _ _
      cases (c == Value.type "enumerate")
      · wp_walk using e2
        exact ⟨_, rfl, hr⟩
      · wp_walk using e2
        exact ⟨_, rfl, hr⟩
    · wp_walk using e2
      exact ⟨_, rfl, hr⟩
theorem enum_tup {prog : Program} {w : World} {A : Around} {E : Value → Shared → Prop} {s : Shared} {l : Addr} {its : Array Value} {Q : Value → Shared → Prop} (hl : s.heap.IsTuple l its)
    (h : ∀ h', IsEnum h' (s.heap.objs.size + 1) s.heap.objs.size 0 .none → h'.IsTupleIter s.heap.objs.size l 0 → (∀ b o, s.heap.get? b = some o → h'.get? b = some o) → Q (.ref (s.heap.objs.size + 1)) { s with heap := h' }) :
    wpAny (model prog w) A (call (.type "enumerate") [.ref l]) Q E s := by
  refine callType_new F.called_enumerate (by decide) (F.typeCall_enumerate_1 _) (F.newCall_enumerate_1 _) (fun obj => F.args_object_init_2 obj _) F.entry_enumerate_new (meets_enum1 (begins_tuple l its)) ⟨hl, ?_⟩
  have hz : (s.heap.push ({ cls := .type "tuple_iterator", data := .fields #[.ref l, .int 0 0] } : Obj)).objs.size = s.heap.objs.size + 1 := Heap.size_push ..
  show _ ∧ _
  rw [hz]
  have he : IsEnum ((s.heap.push ({ cls := .type "tuple_iterator", data := .fields #[.ref l, .int 0 0] } : Obj)).push { cls := .type "enumerate", data := .fields #[.none, .bool false, .ref s.heap.objs.size, rawInt 0, .none, .none] }) (s.heap.objs.size + 1) s.heap.objs.size 0 .none := by
    have q := Heap.get?_push_size (s.heap.push ({ cls := .type "tuple_iterator", data := .fields #[.ref l, .int 0 0] } : Obj)) (o := { cls := .type "enumerate", data := .fields #[.none, .bool false, .ref s.heap.objs.size, rawInt 0, .none, .none] }) rfl
    rw [hz] at q
    exact q
  refine ⟨⟨_, he, rfl⟩, h _ he ⟨_, Heap.get?_push_of_some _ (Heap.get?_push_size _ rfl), rfl, rfl⟩ fun b o x => Heap.get?_push_of_some _ (Heap.get?_push_of_some _ x)⟩
def IteT (K : PySem.W.Frag) (a : Addr) : It :=
  ⟨fun i H => ∃ (xs : List V) (x : V), SqT K H a xs ∧ xs[i]? = some x, fun i H v H' => ∃ T x, v = .ref T ∧ H T = none ∧ H' = L2.upd H T (.tup [.int (i : Nat), x]) ∧ ∀ xs, SqT K H a xs → xs[i]? = some x, fun i H => ∃ xs : List V, SqT K H a xs ∧ xs.length = i⟩
theorem turn_enumT {P : Program} {w : World} {K : PySem.W.Frag} {elts : List Expr} {kk : Nat} {tpos : Pos} (a e it : Addr) :
    Turn P w K (.Tuple elts kk tpos) (IteT K a) [e, it] e (fun i h => (∃ old, IsEnum h e it ((i : Nat) : Int) old) ∧ h.IsTupleIter it a i ∧ e ≠ it) where
  mem := by simp
  obj := fun i h st b hb => by
    obtain ⟨⟨old, he⟩, ⟨o, ho, hc, hd⟩, _⟩ := st
    have e' : b = e ∨ b = it := by simpa using hb
    rcases e' with z | z
    · rw [z]
      exact ⟨_, he, fun v q => nomatch q⟩
    · rw [z]
      exact ⟨o, ho, fun v q => by rw [hd] at q; cases q⟩
  keep := fun i h h' st k => let ⟨⟨old, he⟩, hi, hne⟩ := st; ⟨⟨old, k e (by simp) _ he⟩, hi.at fun o q => k it (by simp) o q, hne⟩
  item := by
    intro X hP hw hK hc i pn z σ H E J hf st hg
    subst hP hw hK
    obtain ⟨⟨old, he⟩, hit, hne⟩ := st
    obtain ⟨xs, x, hq, hx⟩ := hg
    obtain ⟨its, rv, p, hz⟩ := J.tuple hq
    obtain ⟨u, hu, ru⟩ := rv.get hx
    have hel : e < z.heap.objs.size := Heap.lt_size he
    have hil : it < z.heap.objs.size := by
      obtain ⟨_, q, _⟩ := hit
      exact Heap.lt_size q
    have hal : a ≠ it := fun c => by
      obtain ⟨o, q1, q2, _⟩ := hit
      obtain ⟨o', q3, q4, _⟩ := p
      rw [c, q1] at q3
      cases q3
      rw [q2] at q4
      exact absurd (Value.type.inj q4) (by decide)
    have hae : e ≠ a := fun c => by
      obtain ⟨o', q3, q4, _⟩ := p
      rw [← c, he] at q3
      cases q3
      exact absurd (Value.type.inj q4) (by decide)
    have D := Draws.tuple (prog := X.prog) (w := X.w) (A := X.A.in1) (J.ok.hd hc) it a hal its.toArray
    have hlt : i < its.toArray.size := by
      have := (List.getElem?_eq_some_iff.mp hu).1
      simpa using this
    refine wpAny_pyNext_enum_itemD D he ⟨hit, p⟩ hlt hne (by simp [hne, hae]) fun y h' tk hy ho hit' hT hsz hk => ?_
    have ey : y = u := by
      have q : its.toArray[i]? = some u := by simpa using hu
      rw [q] at hy
      exact (Option.some.inj hy).symm
    subst ey
    refine ⟨_, rfl, wpAny_letOwnedTupleGo_enum (s := { z with heap := h', toks := tk + 1 }) ho fun h'' he' sb => ?_⟩
    have hT2 : h''.get? z.heap.objs.size = some { cls := .type "tuple", data := .seq #[.int i tk, y] } := (sb.2 _ (Nat.ne_of_gt hel)).trans hT
    have new : ObjOk X.prog X.w (L2.upd H z.heap.objs.size (.tup [.int (i : Nat), x])) h'' z.heap.objs.size (.tup [.int (i : Nat), x]) :=
      ⟨by show 2 ≤ sizeLine; decide, [.int i tk, y], .cons ⟨_, rfl⟩ (.cons ru .nil), ⟨_, hT2, rfl, _, rfl⟩⟩
    have J1 : Inv X pn σ (L2.upd H z.heap.objs.size (.tup [.int (i : Nat), x])) { z with heap := h'', toks := tk + 1 } :=
      J.turnedNew (ch := [e, it]) (fun b ob hb q => (sb.2 b (fun w => hb (by simp [w]))).trans (hk b ob (fun w => hb (by simp [w])) (fun w => hb (by simp [w])) q)) hf (Nat.le_refl _) new
    refine ⟨.ref z.heap.objs.size, _, J1, rfl, ⟨_, x, rfl, J.hok.fresh (Nat.le_refl _), rfl, fun ys hy => by rw [J.tuple_inj hy hq]; exact hx⟩, ⟨⟨y, ?_⟩, hit'.1.at fun o q => (sb.2 it (Ne.symm hne)).trans q, hne⟩, fun b hb => ?_⟩
    · have e1 : ((i + 1 : Nat) : Int) = (i : Int) + 1 := by omega
      rw [e1]
      exact he'
    · have hb' : b < z.heap.objs.size := by
        have e' : b = e ∨ b = it := by simpa using hb
        rcases e' with w | w
        · rw [w]; exact hel
        · rw [w]; exact hil
      rw [upd_ne (Nat.ne_of_lt hb')]
      exact (hf b hb).1
  done := by
    intro X hP hw hK hc i pn z σ H E J hf st hg
    subst hP hw hK
    obtain ⟨⟨old, he⟩, hit, hne⟩ := st
    obtain ⟨xs, hq, hx⟩ := hg
    obtain ⟨its, rv, p, hz⟩ := J.tuple hq
    obtain ⟨f0, f1, f2, f3, f4, f5⟩ := hf it (by simp)
    have hal : a ≠ it := fun c => by
      obtain ⟨o, q1, q2, _⟩ := hit
      obtain ⟨o', q3, q4, _⟩ := p
      rw [c, q1] at q3
      cases q3
      rw [q2] at q4
      exact absurd (Value.type.inj q4) (by decide)
    have D := Draws.tuple (prog := X.prog) (w := X.w) (A := X.A.in1) (J.ok.hd hc) it a hal its.toArray
    have ei : its.toArray.size = i := by
      rw [List.size_toArray, ← rv.length]
      exact hx
    exact wpAny_pyNext_enum_endD D he (by rw [ei]; exact ⟨hit, p⟩) fun h' eb => ⟨rfl, J.turned (t' := z.toks) (fun b o hb q => eb b o hb q) f0 f1 f3 f4 f5⟩
  self := fun A i s Q E st h => let ⟨⟨_, he⟩, _⟩ := st; wpAny_pyIter_enum he h
def iEnumT (K : PySem.W.Frag) (ta : TA) : TI := fun σ H R => ta σ H fun vs H1 => ∃ a xs, vs = [.ref a] ∧ SqT K H1 a xs ∧ R (IteT K a) H1
theorem pi_enumT {X : Cx} {e : Expr} {ta : TA} {p pos tpos : Pos} {elts : List Expr} {kk : Nat} (hg : Gl X "enumerate") (hm : X.mg "enumerate" = none) (ha : PA X [e] ta) (hs : starEach [e] X.env = [(false, eval e X.env)]) :
    PI X (.Tuple elts kk tpos) (.Call (.Name "enumerate" p) [e] [] pos) (iEnumT X.K ta) := by
  refine ⟨fun pn z σ H R J h => ?_⟩
  refine PyProof.Rows.Call_ (ld_blt J hg hm PyProof.Rows.boot_enumerate (PyProof.Rows.callWith_type1 (thn (ha.run pos pn z σ H _ J h) fun us s1 ⟨vs, H1, J1, r1, q1⟩ => ?_) hs rfl))
  obtain ⟨a, xs, rfl, hq, q⟩ := q1
  rw [Vals.ref1 r1]
  obtain ⟨its, rv, p', hz⟩ := J1.tuple hq
  refine enum_tup p' fun h' he hit hk => wpAny_pyIter_enum he ?_
  have J2 : Inv X pn σ H1 { s1 with heap := h' } := J1.kept (t' := s1.toks) hk
  refine ⟨s1.heap.objs.size + 1, [s1.heap.objs.size + 1, s1.heap.objs.size], _, _, H1, rfl, J2, turn_enumT a (s1.heap.objs.size + 1) s1.heap.objs.size, ⟨⟨.none, he⟩, hit, Nat.succ_ne_self _⟩, fun b hb => ?_, q⟩
  have hle : s1.heap.objs.size ≤ b := by
    have e' : b = s1.heap.objs.size + 1 ∨ b = s1.heap.objs.size := by simpa using hb
    rcases e' with w | w
    · rw [w]; exact Nat.le_succ _
    · rw [w]; exact Nat.le_refl _
  exact J1.fpOk hle (J1.hok.fresh hle)
/-! ### what the walks give -/
section
variable {K : PySem.W.Frag} {T : List (Addr × Str)}
/-- J walks the items is of the values ds (at vs), while the store's objects among them stand as in objs0 -/
def JFor (K : PySem.W.Frag) (T : List (Addr × Str)) (J : It) (objs0 : List Ob) (ds : List D) (vs : List V) (is : List D) : Prop :=
  ∀ (i : Nat) (ρ : List Addr) (H : Hp) (objs : List Ob), Sr K T ρ H objs → Reps K ρ ρ H ds vs → still objs0 objs ds = true →
    (is.length = i → J.stop i H) ∧ ∀ d, is[i]? = some d → J.go i H ∧ ∀ x H', J.yld i H x H' → Ext K ρ H ρ H' ∧ Sr K T ρ H' objs ∧ Rep K ρ ρ H' d x
mutual
theorem eqb_eq : ∀ {a b : D}, D.eqb a b = true → a = b
  | .non, b, h => by cases b <;> simp only [D.eqb, Bool.false_eq_true] at h; rfl
  | .bl x, b, h => by cases b <;> simp only [D.eqb, Bool.false_eq_true] at h; rw [eq_of_beq h]
  | .int x, b, h => by cases b <;> simp only [D.eqb, Bool.false_eq_true] at h; rw [eq_of_beq h]
  | .str x, b, h => by cases b <;> simp only [D.eqb, Bool.false_eq_true] at h; rw [eq_of_beq h]
  | .tup x, b, h => by cases b <;> simp only [D.eqb, Bool.false_eq_true] at h; rw [eqbL_eq h]
  | .lst x, b, h => by cases b <;> simp only [D.eqb, Bool.false_eq_true] at h; rw [eqbL_eq h]
  | .scr x, b, h => by cases b <;> simp only [D.eqb, Bool.false_eq_true] at h
  | .ref x, b, h => by cases b <;> simp only [D.eqb, Bool.false_eq_true] at h; rw [eq_of_beq h]
theorem eqbL_eq : ∀ {a b : List D}, D.eqbL a b = true → a = b
  | [], b, h => by cases b <;> simp only [D.eqbL, Bool.false_eq_true] at h; rfl
  | x :: xs, b, h => by
    cases b with
    | nil => simp only [D.eqbL, Bool.false_eq_true] at h
    | cons y ys =>
      simp only [D.eqbL, Bool.and_eq_true] at h
      rw [eqb_eq h.1, eqbL_eq h.2]
end
theorem still_seq {o0 o1 : List Ob} {d : D} {is : List D} (h : still1 o0 o1 d = true) (e : seqOf o0 d = some is) : seqOf o1 d = some is := by
  cases d with
  | ref n =>
    simp only [still1] at h
    split at h
    · rename_i a b h1 h2
      simp only [seqOf, h1, Option.some.injEq] at e
      simp only [seqOf, h2, Option.some.injEq]
      rw [← eqbL_eq h, e]
    · cases h
  | _ => exact e
/-- kinds of sequences -/
def isTupD : D → Bool
  | .tup _ => true
  | _ => false
theorem seq_lst {ρ : List Addr} {H : Hp} {objs : List Ob} {d : D} {v : V} {is : List D} (s : StRel K ρ ρ H objs) (h : seqOf objs d = some is) (k : isTupD d = false) (r : Rep K ρ ρ H d v) : ∃ a xs, v = .ref a ∧ SqL K H a xs ∧ Reps K ρ ρ H is xs := by
  cases d with
  | lst ds =>
    simp only [seqOf, Option.some.injEq] at h
    subst h
    simp only [Rep] at r
    obtain ⟨a, vs, r1, r2, _, r3⟩ := r
    exact ⟨a, vs, r1, SqL.of r2, r3⟩
  | scr ds =>
    simp only [seqOf, Option.some.injEq] at h
    subst h
    simp only [Rep] at r
    obtain ⟨a, vs, r1, r2, r3⟩ := r
    exact ⟨a, vs, r1, r2.sq, r3⟩
  | ref n =>
    simp only [Rep] at r
    obtain ⟨a, rfl, ha⟩ := r
    obtain ⟨xs, vs, e1, e2, e3⟩ := s.ob ha
    simp only [seqOf, e1, Option.some.injEq] at h
    subst h
    exact ⟨a, vs, rfl, SqL.of e2, e3⟩
  | tup ds => cases k
  | _ => simp only [seqOf, reduceCtorEq] at h
theorem seq_tup {ρ : List Addr} {H : Hp} {objs : List Ob} {d : D} {v : V} {is : List D} (h : seqOf objs d = some is) (k : isTupD d = true) (r : Rep K ρ ρ H d v) : ∃ a xs, v = .ref a ∧ SqT K H a xs ∧ Reps K ρ ρ H is xs := by
  cases d with
  | tup ds =>
    simp only [seqOf, Option.some.injEq] at h
    subst h
    simp only [Rep] at r
    exact r
  | _ => cases k
theorem still_one {o0 o1 : List Ob} {d : D} {ds : List D} (h : still o0 o1 (d :: ds) = true) : still1 o0 o1 d = true ∧ still o0 o1 ds = true := by
  simpa only [still, List.all_cons, Bool.and_eq_true] using h
theorem j_list {objs0 : List Ob} {d : D} {a : Addr} {is : List D} (h : seqOf objs0 d = some is) (k : isTupD d = false) : JFor K T (Itl K a) objs0 [d] [.ref a] is := fun i ρ H objs sr r st => by
  obtain ⟨v, rfl', r1⟩ := reps1 (ds := []) r
  cases rfl'
  obtain ⟨b, xs, e, h1, h2⟩ := seq_lst sr.st (still_seq (still_one st).1 h) k r1
  cases e
  refine ⟨fun e => ⟨xs, h1, by rw [← h2.len]; omega⟩, fun d hd => ?_⟩
  obtain ⟨w, h3, h4⟩ := h2.get hd
  refine ⟨⟨xs, w, h1, h3⟩, fun x H' ⟨e1, e2⟩ => ?_⟩
  subst e1
  have e3 := e2 xs h1
  rw [h3] at e3
  cases e3
  exact ⟨.refl, sr, h4⟩
theorem j_tup {objs0 : List Ob} {d : D} {a : Addr} {is : List D} (h : seqOf objs0 d = some is) (k : isTupD d = true) : JFor K T (Itt K a) objs0 [d] [.ref a] is := fun i ρ H objs sr r st => by
  obtain ⟨v, rfl', r1⟩ := reps1 (ds := []) r
  cases rfl'
  obtain ⟨b, xs, e, h1, h2⟩ := seq_tup (still_seq (still_one st).1 h) k r1
  cases e
  refine ⟨fun e => ⟨xs, h1, by rw [← h2.len]; omega⟩, fun d hd => ?_⟩
  obtain ⟨w, h3, h4⟩ := h2.get hd
  refine ⟨⟨xs, w, h1, h3⟩, fun x H' ⟨e1, e2⟩ => ?_⟩
  subst e1
  have e3 := e2 xs h1
  rw [h3] at e3
  cases e3
  exact ⟨.refl, sr, h4⟩
theorem rngL_get {a b : Int} {i : Nat} {d : D} (h : (rngL a b)[i]? = some d) : i < (b - a).toNat ∧ d = .int (a + (i : Int)) := by
  simp only [rngL, List.getElem?_map] at h
  cases e : (List.range (b - a).toNat)[i]? with
  | none => rw [e] at h; cases h
  | some j =>
    rw [e] at h
    obtain ⟨l, q⟩ := List.getElem?_eq_some_iff.mp e
    simp only [List.getElem_range] at q
    simp only [List.length_range] at l
    subst q
    cases h
    exact ⟨l, rfl⟩
theorem j_rng {objs0 : List Ob} {ds : List D} {vs : List V} {a b : Int} : JFor K T (Itr a (b - a).toNat) objs0 ds vs (rngL a b) := fun i ρ H objs sr r st => by
  refine ⟨fun e => ?_, fun d hd => ?_⟩
  · show (b - a).toNat ≤ i
    simp only [rngL, List.length_map, List.length_range] at e
    omega
  · obtain ⟨h1, rfl⟩ := rngL_get hd
    refine ⟨h1, fun x H' ⟨e1, e2⟩ => ?_⟩
    subst e1
    subst e2
    exact ⟨.refl, sr, by simp only [Rep]⟩
theorem enm_get {is : List D} {i : Nat} {d : D} (h : (is.zipIdx.map fun p => D.tup [.int p.2, p.1])[i]? = some d) : ∃ x, is[i]? = some x ∧ d = .tup [.int (i : Nat), x] := by
  rw [List.getElem?_map, List.getElem?_zipIdx] at h
  cases e : is[i]? with
  | none => rw [e] at h; cases h
  | some x =>
    rw [e] at h
    cases h
    exact ⟨x, rfl, by simp⟩
/-- a pair that is laid on the way -/
theorem pair_new {ρ : List Addr} {H : Hp} {objs : List Ob} {P : Addr} {d e : D} {u v : V} (sr : Sr K T ρ H objs) (hP : H P = none) (a : Rep K ρ ρ H d u) (b : Rep K ρ ρ H e v) : Ext K ρ H ρ (L2.upd H P (.tup [u, v])) ∧ Sr K T ρ (L2.upd H P (.tup [u, v])) objs ∧ Rep K ρ ρ (L2.upd H P (.tup [u, v])) (.tup [d, e]) (.ref P) := by
  have ex : Ext K ρ H ρ (L2.upd H P (.tup [u, v])) := Ext.upd hP
  refine ⟨ex, sr.upd hP, ?_⟩
  simp only [Rep]
  exact ⟨P, [u, v], rfl, SqT.of upd_same, (Reps.cons a (Reps.cons b Reps.nil)).mono ex (fun _ h => h) fun _ h => .inl h⟩
theorem j_enm {objs0 : List Ob} {d : D} {a : Addr} {is : List D} (h : seqOf objs0 d = some is) (k : isTupD d = false) : JFor K T (Ite K a) objs0 [d] [.ref a] (is.zipIdx.map fun p => .tup [.int p.2, p.1]) := fun i ρ H objs sr r st => by
  obtain ⟨v, rfl', r1⟩ := reps1 (ds := []) r
  cases rfl'
  obtain ⟨b, xs, e, h1, h2⟩ := seq_lst sr.st (still_seq (still_one st).1 h) k r1
  cases e
  refine ⟨fun e => ⟨xs, h1, by rw [← h2.len]; simp at e; omega⟩, fun d hd => ?_⟩
  obtain ⟨y, hy, rfl⟩ := enm_get hd
  obtain ⟨w, h3, h4⟩ := h2.get hy
  refine ⟨⟨xs, w, h1, h3⟩, fun x H' ⟨P, x', e1, e2, e3, e4⟩ => ?_⟩
  have e5 := e4 xs h1
  rw [h3] at e5
  cases e5
  subst e1
  subst e3
  exact pair_new sr e2 (by simp only [Rep]) h4
theorem j_enmT {objs0 : List Ob} {d : D} {a : Addr} {is : List D} (h : seqOf objs0 d = some is) (k : isTupD d = true) : JFor K T (IteT K a) objs0 [d] [.ref a] (is.zipIdx.map fun p => .tup [.int p.2, p.1]) := fun i ρ H objs sr r st => by
  obtain ⟨v, rfl', r1⟩ := reps1 (ds := []) r
  cases rfl'
  obtain ⟨b, xs, e, h1, h2⟩ := seq_tup (still_seq (still_one st).1 h) k r1
  cases e
  refine ⟨fun e => ⟨xs, h1, by rw [← h2.len]; simp at e; omega⟩, fun d hd => ?_⟩
  obtain ⟨y, hy, rfl⟩ := enm_get hd
  obtain ⟨w, h3, h4⟩ := h2.get hy
  refine ⟨⟨xs, w, h1, h3⟩, fun x H' ⟨P, x', e1, e2, e3, e4⟩ => ?_⟩
  have e5 := e4 xs h1
  rw [h3] at e5
  cases e5
  subst e1
  subst e3
  exact pair_new sr e2 (by simp only [Rep]) h4
end
end Ev

set_option Elab.async false
set_option linter.all false
set_option maxRecDepth 100000
/-! Ev11: targets, statements -/
namespace Ev
open PySem L2
section
variable {g : Gs} {X : Cx} {W : WX} {ρ ρ1 : List Addr} {σ : L2.St} {H H1 : Hp} {env : Env} {st : St} {e a b c : Expr} {ta tb tc t : T} {pos : Pos}
/-! ### targets -/
/-- the slots of a target -/
def G.vars : G → List Nat
  | .nm i => [i]
  | .tup g r => g.vars ++ r.vars
  | .nil => []
/-- but for the slots js -/
def But (js : List Nat) (σ σ' : L2.St) : Prop := σ'.length = σ.length ∧ ∀ j : Nat, j ∉ js → σ'[j]? = σ[j]?
def tG (g : Gs) (X : Cx) (gt : G) : TG := fun v σ H Q => ∃ ρ env objs d env', EnvRel g X ρ H σ env ∧ Sr X.K g.T ρ H objs ∧ Rep X.K ρ ρ H d v ∧ asg gt d env = some env' ∧ ∀ σ', But gt.vars σ σ' → EnvRel g X ρ H σ' env' → Q σ' H
def tGs (g : Gs) (X : Cx) (gt : G) : TGs := fun vs σ H Q => ∃ ρ env objs ds env', EnvRel g X ρ H σ env ∧ Sr X.K g.T ρ H objs ∧ Reps X.K ρ ρ H ds vs ∧ asgL gt ds env = some env' ∧ ∀ σ', But gt.vars σ σ' → EnvRel g X ρ H σ' env' → Q σ' H
theorem pgImp {e : Expr} {t t' : TG} (h : PG X e t) (f : ∀ v σ H Q, t' v σ H Q → t v σ H Q) : PG X e t' := ⟨fun pn z σ H v u Q J r q => h.run pn z σ H v u Q J r (f v σ H Q q)⟩
theorem pgsImp {es : List Expr} {t t' : TGs} (h : PGs X es t) (f : ∀ v σ H Q, t' v σ H Q → t v σ H Q) : PGs X es t' := ⟨fun pn z σ H v u Q J r q => h.run pn z σ H v u Q J r (f v σ H Q q)⟩
theorem slotAt_set {i j : Nat} {o : Option V} (h : i < σ.length) : NdefX.slotAt (σ.set i o) j = if i = j then o else NdefX.slotAt σ j := by
  unfold NdefX.slotAt
  rw [List.getElem?_set]
  by_cases e : i = j
  · subst e
    rw [if_pos rfl, if_pos h, if_pos rfl]
  · rw [if_neg e, if_neg e]
theorem EnvRel.set {i : Nat} {d : D} {v : V} (r : EnvRel g X ρ H σ env) (h : i < env.length) (rv : Rep X.K ρ ρ H d v) : EnvRel g X ρ H (σ.set i (some v)) (env.set i (.val d)) := by
  refine ⟨by simp [r.len], fun j w e => ?_, r.nl.imp (fun z => z) NoLam.set⟩
  rw [slotAt_set (by rw [← r.len]; exact h)]
  by_cases q : i = j
  · subst q
    rw [List.getElem?_set_self h] at e
    cases e
    rw [if_pos rfl]
    exact ⟨v, rfl, rv⟩
  · rw [List.getElem?_set_ne q] at e
    rw [if_neg q]
    exact r.at_ j w e
theorem g_name {i : Nat} {x : Str} (hN : X.N.Nodup) (hi : X.N[i]? = some x) (hx : Loc X.env.scope x) (hf : X.fn x = true ∨ X.env.scope.names.lookup x = some .local) : PG X (.Name x pos) (tG g X (.nm i)) :=
  pgImp (pg_name hN hi hx hf) fun v σ H Q h => by
    obtain ⟨ρ, env, objs, d, env', r, sr, rv, ea, q⟩ := h
    simp only [asg] at ea
    split at ea
    · rename_i l
      cases ea
      exact q _ ⟨by simp, fun j hj => List.getElem?_set_ne (fun z => hj (by rw [← z]; simp [G.vars]))⟩ (r.set l rv)
    · cases ea
theorem gs_nil : PGs X [] (tGs g X .nil) := pgsImp pgs_nil fun vs σ H Q h => by
  obtain ⟨ρ, env, objs, ds, env', r, sr, rv, ea, q⟩ := h
  cases ds with
  | nil =>
    simp only [asgL] at ea
    cases ea
    simp only [Reps] at rv
    exact ⟨rv, q σ ⟨rfl, fun _ _ => rfl⟩ r⟩
  | cons d ds => simp only [asgL] at ea; cases ea
theorem gs_cons {es : List Expr} {g1 gr : G} (h1 : PG X e (tG g X g1)) (h2 : PGs X es (tGs g X gr)) (hs : (assignEach (e :: es) X.env).map (·.2) = assign e X.env :: (assignEach es X.env).map (·.2)) : PGs X (e :: es) (tGs g X (.tup g1 gr)) :=
  pgsImp (pgs_cons h1 h2 hs) fun vs σ H Q h => by
    obtain ⟨ρ, env, objs, ds, env', r, sr, rv, ea, q⟩ := h
    cases ds with
    | nil => simp only [asgL] at ea; cases ea
    | cons d ds =>
      simp only [asgL] at ea
      obtain ⟨v, vr, rfl, r1, r2⟩ := rv.inv
      cases e1 : asg g1 d env with
      | none => rw [e1] at ea; cases ea
      | some env1 =>
        rw [e1] at ea
        exact ⟨v, vr, rfl, ρ, env, objs, d, env1, r, sr, r1, e1, fun σ' b1 r' => ⟨ρ, env1, objs, ds, env', r', sr, r2, ea, fun σ2 b2 => q σ2 ⟨b2.1.trans b1.1, fun j hj => (b2.2 j fun z => hj (List.mem_append_right _ z)).trans (b1.2 j fun z => hj (List.mem_append_left _ z))⟩⟩⟩
def G.len : G → Nat
  | .tup _ r => r.len + 1
  | _ => 0
theorem asgL_len : ∀ {gt : G} {ds : List D} {env env' : Env}, asgL gt ds env = some env' → ds.length = gt.len
  | .nil, [], _, _, _ => rfl
  | .nil, _ :: _, _, _, h => by simp only [asgL] at h; cases h
  | .tup g1 r, [], _, _, h => by simp only [asgL] at h; cases h
  | .tup g1 r, d :: ds, env, env', h => by
    simp only [asgL] at h
    split at h
    · simp only [List.length_cons, G.len, asgL_len h]
    · cases h
  | .nm _, _, _, _, h => by simp only [asgL] at h; cases h
theorem g_tup {es : List Expr} {k : Nat} {g1 gr : G} (hc : X.calm = true) (h : PGs X es (tGs g X (.tup g1 gr))) (hn : (assignEach es X.env).length = (G.tup g1 gr).len) (hst : (assignEach es X.env).findIdx? (·.1) = none) : PG X (.Tuple es k pos) (tG g X (.tup g1 gr)) :=
  pgImp (pg_tup hc h hn hst) fun v σ H Q h => by
    obtain ⟨ρ, env, objs, d, env', r, sr, rv, ea, q⟩ := h
    cases d with
    | tup ds =>
      simp only [Rep] at rv
      obtain ⟨a, vs, e1, h1, h2⟩ := rv
      have ea' : asgL (.tup g1 gr) ds env = some env' := by
        cases ds with
        | nil => simp only [asg] at ea; cases ea
        | cons d ds => exact ea
      exact ⟨a, vs, e1, h1, by rw [← h2.len]; exact asgL_len ea', ρ, env, objs, ds, env', r, sr, h2, ea', q⟩
    | _ => simp only [asg] at ea; cases ea
/-! ### what a statement leaves -/
def PostO (g : Gs) (X : Cx) (W : WX) (ρ : List Addr) (H : Hp) (o : O) (D : Ends) : Prop := match o with
  | .nx env' st' => ∀ ρ' σ' H', Ext X.K ρ H ρ' H' → Cfg g X ρ' σ' H' env' st' → D.nx σ' H'
  | .br env' st' => ∀ ρ' σ' H', Ext X.K ρ H ρ' H' → Cfg g X ρ' σ' H' env' st' → D.bk σ' H'
  | .ct env' st' => ∀ ρ' σ' H', Ext X.K ρ H ρ' H' → Cfg g X ρ' σ' H' env' st' → D.ct σ' H'
  | .rt x st' => ∀ ρ' H' v, Ext X.K ρ H ρ' H' → LamX.Tabs g.T H' → ResX X.K ρ' H H' st'.objs x v → D.rt v H'
  | .rs c w _ st' => ∀ ρ' σ' H' dx wv C, Ext X.K ρ H ρ' H' → Sr X.K g.T ρ' H' st'.objs → Rep X.K ρ' ρ' H' w wv → Nw H dx → H' dx = some (.xd [("what", wv)]) → IsC X.mg g.inf c C → W (.ref C) (some dx) σ' H'
  | .bad => False
def tS (g : Gs) (X : Cx) (W : WX) (f : Env → St → O) : TS := fun D σ H => ∃ ρ env st, Cfg g X ρ σ H env st ∧ PostO g X W ρ H (f env st) D
theorem PostO.step {o : O} {D : Ends} (e : Ext X.K ρ H ρ1 H1) (h : PostO g X W ρ H o D) : PostO g X W ρ1 H1 o D := by
  cases o with
  | nx env' st' => exact fun ρ' σ' H' e' c => h ρ' σ' H' (e.trans e') c
  | br env' st' => exact fun ρ' σ' H' e' c => h ρ' σ' H' (e.trans e') c
  | ct env' st' => exact fun ρ' σ' H' e' c => h ρ' σ' H' (e.trans e') c
  | rt x st' => exact fun ρ' H' v e' t r => h ρ' H' v (e.trans e') t (r.back e)
  | rs c w env' st' => exact fun ρ' σ' H' dx wv C e' s r n o i => h ρ' σ' H' dx wv C (e.trans e') s r (e.back n) o i
  | bad => exact h
/-- a value, then a statement's end -/
theorem tE_to {f : Env → St → R Ev.X} {k : Ev.X → St → O} {D : Ends} (cf : Cfg g X ρ σ H env st) (h : PostO g X W ρ H ((f env st).to env k) D) :
    tE g X W f σ H fun v H1 => ∃ ρ1 x st1, Ext X.K ρ H ρ1 H1 ∧ f env st = .ok x st1 ∧ ResX X.K ρ1 H H1 st1.objs x v ∧ Cfg g X ρ1 σ H1 env st1 ∧ Rep X.K ρ1 ρ1 H1 x.d v ∧ PostO g X W ρ1 H1 (k x st1) D := by
  refine ⟨ρ, env, st, cf, ?_⟩
  cases e : f env st with
  | ok x st1 =>
    rw [e] at h
    intro ρ' H' ex t v r
    exact ⟨ρ', x, st1, ex, rfl, r, cf.ext ex (r.sr t), r.frz.2, PostO.step ex h⟩
  | rs c' w st1 =>
    rw [e] at h
    exact fun ρ' H' dx wv C e' s r n o i => h ρ' σ H' dx wv C e' s r n o i
  | bad =>
    rw [e] at h
    exact h
theorem tB_to {f : Env → St → R Bool} {k : Bool → St → O} {D : Ends} (cf : Cfg g X ρ σ H env st) (h : PostO g X W ρ H ((f env st).to env k) D) :
    tB' g X W f σ H fun b H1 => ∃ ρ1 st1, Ext X.K ρ H ρ1 H1 ∧ Cfg g X ρ1 σ H1 env st1 ∧ PostO g X W ρ1 H1 (k b st1) D := by
  refine ⟨ρ, env, st, cf, ?_⟩
  cases e : f env st with
  | ok x st1 =>
    rw [e] at h
    exact fun ρ' H' ex t s => ⟨ρ', st1, ex, cf.ext ex s, PostO.step ex h⟩
  | rs c' w st1 =>
    rw [e] at h
    exact fun ρ' H' dx wv C e' s r n o i => h ρ' σ H' dx wv C e' s r n o i
  | bad =>
    rw [e] at h
    exact h
theorem psI {p : Stmt} {t t' : TS} (h : PS X p t) (f : ∀ D σ H, t' D σ H → t D σ H) : PS X p t' := ⟨fun pn z σ H D J q => h.run pn z σ H D J (f D σ H q)⟩
theorem pssI {p : List Stmt} {t t' : TS} (h : PSs X p t) (f : ∀ D σ H, t' D σ H → t D σ H) : PSs X p t' := ⟨fun pn z σ H D J q => h.run pn z σ H D J (f D σ H q)⟩
/-- nothing happens -/
theorem PostO.here {D : Ends} (h : PostO g X W ρ H (.nx env st) D) (cf : Cfg g X ρ σ H env st) : D.nx σ H := h ρ σ H .refl cf
theorem s_ex (ha : PE X a (tE g X W (ev g.cl ta))) (hs : swapsWith a none pos.line X.env = pure false) : PS X (.Expr a pos) (tS g X W (exS g.cl (.ex ta))) :=
  psI (ps_expr ha hs) fun D σ H h => by
    obtain ⟨ρ, env, st, cf, h⟩ := h
    simp only [exS] at h
    exact tE_mono (tE_to cf h) fun v H1 ⟨ρ1, x, st1, _, _, _, c1, _, h1⟩ => h1.here c1
theorem s_ret (ha : PE X a (tE g X W (ev g.cl ta))) : PS X (.Return (some a) pos) (tS g X W (exS g.cl (.ret ta))) :=
  psI (ps_ret ha) fun D σ H h => by
    obtain ⟨ρ, env, st, cf, h⟩ := h
    simp only [exS] at h
    refine ⟨ρ, env, st, cf, ?_⟩
    cases e : ev g.cl ta env st with
    | ok x st1 =>
      rw [e] at h
      exact fun ρ' H' ex t v r => h ρ' H' v ex t r
    | rs c w st1 =>
      rw [e] at h
      exact fun ρ' H' dx wv C e' s r n o i => h ρ' σ H' dx wv C e' s r n o i
    | bad =>
      rw [e] at h
      exact h
theorem s_retN : PS X (.Return none pos) (tS g X W (exS g.cl .retN)) :=
  psI ps_retN fun D σ H h => by
    obtain ⟨ρ, env, st, cf, h⟩ := h
    simp only [exS] at h
    exact h ρ H .non .refl cf.sr.tab ⟨cf.sr.st, by simp only [Rep]⟩
theorem s_pass : PS X (.Pass pos) (tS g X W (exS g.cl .skip)) := psI ps_pass fun D σ H h => by
  obtain ⟨ρ, env, st, cf, h⟩ := h
  simp only [exS] at h
  exact h.here cf
theorem s_brk : PS X (.Break pos) (tS g X W (exS g.cl .brk)) := psI ps_break fun D σ H h => by
  obtain ⟨ρ, env, st, cf, h⟩ := h
  simp only [exS] at h
  exact h ρ σ H .refl cf
theorem s_cnt : PS X (.Continue pos) (tS g X W (exS g.cl .cnt)) := psI ps_continue fun D σ H h => by
  obtain ⟨ρ, env, st, cf, h⟩ := h
  simp only [exS] at h
  exact h ρ σ H .refl cf
theorem ss_nil : PSs X [] (tS g X W (exS g.cl .skip)) := pssI pss_nil fun D σ H h => by
  obtain ⟨ρ, env, st, cf, h⟩ := h
  simp only [exS] at h
  exact h.here cf
theorem ss_cons {p : Stmt} {ps : List Stmt} {s1 s2 : S} (h1 : PS X p (tS g X W (exS g.cl s1))) (h2 : PSs X ps (tS g X W (exS g.cl s2))) : PSs X (p :: ps) (tS g X W (exS g.cl (.seq s1 s2))) :=
  pssI (pss_cons h1 h2) fun D σ H h => by
    obtain ⟨ρ, env, st, cf, h⟩ := h
    simp only [exS] at h
    refine ⟨ρ, env, st, cf, ?_⟩
    cases e : exS g.cl s1 env st with
    | nx env' st' => rw [e] at h; exact fun ρ' σ' H' ex c => ⟨ρ', env', st', c, PostO.step ex h⟩
    | br env' st' => rw [e] at h; exact h
    | ct env' st' => rw [e] at h; exact h
    | rt x st' => rw [e] at h; exact h
    | rs c w env' st' => rw [e] at h; exact h
    | bad => rw [e] at h; exact h
theorem s_if {ps qs : List Stmt} {s1 s2 : S} (hc : PT X c (tT g X W tc)) (h1 : PSs X ps (tS g X W (exS g.cl s1))) (h2 : PSs X qs (tS g X W (exS g.cl s2))) : PS X (.If c ps qs pos) (tS g X W (exS g.cl (.ife tc s1 s2))) :=
  psI (ps_if hc h1 h2) fun D σ H h => by
    obtain ⟨ρ, env, st, cf, h⟩ := h
    simp only [exS] at h
    refine tB_mono (tB_to cf h) fun k H1 ⟨ρ1, st1, _, c1, h1⟩ => ?_
    cases k with
    | true => exact ⟨ρ1, env, st1, c1, h1⟩
    | false => exact ⟨ρ1, env, st1, c1, h1⟩
/-- target = value -/
theorem s_asg {tg : Expr} {gt : G} (ha : PE X a (tE g X W (ev g.cl ta))) (hg : PG X tg (tG g X gt)) (hs : swapsWithSole [tg] a pos.line X.env = pure false) (hw : swappedStores [tg] a X.env = pure none) (h1 : (assignEach [tg] X.env).map (·.2) = [assign tg X.env]) :
    PS X (.Assign [tg] a pos) (tS g X W (exS g.cl (.asg gt ta))) :=
  psI (ps_asg ha hg hs hw h1) fun D σ H h => by
    obtain ⟨ρ, env, st, cf, h⟩ := h
    simp only [exS] at h
    refine tE_mono (tE_to cf h) fun v H1 ⟨ρ1, x, st1, _, _, _, c1, r1, h1⟩ => ?_
    cases e : asg gt x.d env with
    | none => rw [e] at h1; exact h1.elim
    | some env' =>
      rw [e] at h1
      exact ⟨ρ1, env, st1.objs, x.d, env', c1.env, c1.sr, r1, e, fun σ' _ r' => h1 ρ1 σ' H1 .refl ⟨r', c1.sr⟩⟩
/-- o[i] = value -/
theorem set_ok : PSet X (fun o i v H Q => ∃ (ρ : List Addr) (st : St) (n : Nat) (k : Int) (ds : List D) (j : Nat) (d : D), Sr X.K g.T ρ H st.objs ∧ Rep X.K ρ ρ H (.ref n) o ∧ i = .int k ∧ Rep X.K ρ ρ H d v ∧ st.objs[n]? = some (Ob.lst ds) ∧ ixN ds.length k = some j ∧ ∀ H', Ext X.K ρ H ρ H' → Sr X.K g.T ρ H' (st.objs.set n (.lst (ds.set j d))) → Q H') := by
  intro pn z σ H o i v ov iv uu Q J ro ri rv h
  obtain ⟨ρ, st, n, k, ds, j, d, sr, r1, rfl, r3, e1, e2, q⟩ := h
  simp only [Rep] at r1
  obtain ⟨p, rfl, hp⟩ := r1
  obtain ⟨es, vs, f1, f2, f3⟩ := sr.st.ob hp
  rw [e1] at f1
  cases f1
  have sr' := sr.write hp f2 (f3.set r3 j)
  refine set_list pn z σ H _ _ v ov iv uu Q J ro ri rv ⟨p, vs, k, j, rfl, rfl, f2, ?_, q _ (Ext.write f2 (List.mem_of_getElem? hp)) sr'⟩
  rw [← f3.len]
  exact e2
theorem s_setI {o i : Expr} {to' ti : T} {p1 : Pos} (ha : PE X a (tE g X W (ev g.cl ta))) (ho : PE X o (tE g X W (ev g.cl to'))) (hi : PE X i (tE g X W (ev g.cl ti))) (hs : swapsWithSole [.Subscript o i p1] a pos.line X.env = pure false) (hw : swappedStores [.Subscript o i p1] a X.env = pure none)
    (hx : ∀ v, assign (.Subscript o i p1) X.env v = (do
      let ov ← holding [v] (eval o X.env)
      let iv ← holding [v, ov] (eval i X.env)
      standAt p1
      holding [v, ov, iv] (setItem ov iv v)
      release [v, ov, iv] [])) : PS X (.Assign [.Subscript o i p1] a pos) (tS g X W (exS g.cl (.setI to' ti ta))) :=
  psI (ps_asg ha (pg_sub ho hi (set_ok (g := g)) hx) hs hw (by rfl)) fun D σ H h => by
    obtain ⟨ρ, env, st, cf, h⟩ := h
    simp only [exS] at h
    refine tE_mono (tE_to cf h) fun v H1 ⟨ρ1, x, st1, _, _, _, c1, r1, h1⟩ => ?_
    refine tE_mono (tE_to c1 h1) fun ov H2 ⟨ρ2, y, st2, e2, _, _, c2, r2, h2⟩ => ?_
    refine tE_mono (tE_to c2 h2) fun iv H3 ⟨ρ3, z, st3, e3, _, _, c3, r3, h3⟩ => ?_
    split at h3
    · rename_i n k hy hz
      rw [hy] at r2
      rw [hz] at r3
      simp only [Rep] at r3
      split at h3
      · rename_i ds hd
        split at h3
        · rename_i j hj
          have e23 := e2.trans e3
          exact ⟨ρ3, st3, n, k, ds, j, x.d, c3.sr, r2.mono e3 (fun _ m => m) e3.av, r3, r1.mono e23 (fun _ m => m) e23.av, hd, hj, fun H' ex sr' => h3 ρ3 σ H' ex (c3.ext ex sr')⟩
        · exact h3.elim
      · exact h3.elim
    · exact h3.elim
/-- name op= value -/
theorem aug_of {i : Nat} {x : Str} {p1 : Pos} {o : Bop} {op : Operator} {f : Int → Int → Int} (hN : X.N.Nodup) (hi : X.N[i]? = some x) (hx : Loc X.env.scope x) (hf : X.fn x = true ∨ X.env.scope.names.lookup x = some .local) (ha : PE X a (tE g X W (ev g.cl ta))) (hp : PIp X op (ipI f))
    (he : augD o = augI f) : PS X (.AugAssign (.Name x p1) op a pos) (tS g X W (exS g.cl (.aug i o ta))) :=
  psI (ps_aug hN hi hx ha hp hf) fun D σ H h => by
    obtain ⟨ρ, env, st, cf, h⟩ := h
    simp only [exS, he] at h
    split at h
    · rename_i k e1
      obtain ⟨v, h1, h2⟩ := cf.env.at_ i _ e1
      simp only [Rep] at h2
      refine ⟨v, NdefX.slotAt_some h1, tE_mono (tE_to cf h) fun u H1 ⟨ρ1, y, st1, ex, _, _, c1, r1, q1⟩ => ?_⟩
      cases hy : y.d with
      | int m =>
        rw [hy] at q1 r1
        simp only [Rep] at r1
        exact ⟨k, m, h2, r1, q1 ρ1 _ H1 .refl ⟨c1.env.set (List.getElem?_eq_some_iff.mp e1).1 (by simp only [Rep]), c1.sr⟩⟩
      | _ => rw [hy] at q1; exact q1.elim
    · exact h.elim
theorem s_aug {i : Nat} {x : Str} {p1 : Pos} {o : Bop} (ho : o = .add ∨ o = .sub) (hN : X.N.Nodup) (hi : X.N[i]? = some x) (hx : Loc X.env.scope x) (hf : X.fn x = true ∨ X.env.scope.names.lookup x = some .local) (ha : PE X a (tE g X W (ev g.cl ta))) : PS X (.AugAssign (.Name x p1) (opOf o) a pos) (tS g X W (exS g.cl (.aug i o ta))) := by
  rcases ho with rfl | rfl
  · exact aug_of hN hi hx hf ha ip_add rfl
  · exact aug_of hN hi hx hf ha ip_sub rfl
theorem s_while {ps : List Stmt} {s1 : S} (hp : PassesOwn (model X.prog X.w) X.A X.env X.xe) (hc : PT X c (tT g X W tc)) (h1 : PSs X ps (tS g X W (exS g.cl s1))) : PS X (.While c ps [] pos) (tS g X W (exS g.cl (.wh tc s1))) :=
  psI (ps_while hp hc h1) fun D σ H h => by
    obtain ⟨ρ, env, st, cf, h⟩ := h
    simp only [exS] at h
    refine ⟨fun m σ H => ∃ ρ env st, Cfg g X ρ σ H env st ∧ PostO g X W ρ H (whL (evt g.cl tc) (exS g.cl s1) m env st) D, ⟨bigN, ρ, env, st, cf, h⟩, ?_⟩
    rintro m σ H ⟨ρ, env, st, cf, h⟩
    cases m with
    | zero => exact h.elim
    | succ m =>
      simp only [whL] at h
      refine tB_mono (tB_to cf h) fun k H1 ⟨ρ1, st1, _, c1, h1⟩ => ?_
      cases k with
      | false => exact h1.here c1
      | true =>
        rw [if_pos rfl] at h1 ⊢
        refine ⟨fun σ' H' => ∃ ρ' env' st', Cfg g X ρ' σ' H' env' st' ∧ PostO g X W ρ' H' (whL (evt g.cl tc) (exS g.cl s1) m env' st') D, fun σ' H' q => ⟨m, Nat.lt_succ_self m, q⟩, ρ1, env, st1, c1, ?_⟩
        cases e : exS g.cl s1 env st1 with
        | nx env' st' => rw [e] at h1; exact fun ρ' σ' H' ex c => ⟨ρ', env', st', c, PostO.step ex h1⟩
        | ct env' st' => rw [e] at h1; exact fun ρ' σ' H' ex c => ⟨ρ', env', st', c, PostO.step ex h1⟩
        | br env' st' => rw [e] at h1; exact h1
        | rt x st' => rw [e] at h1; exact h1
        | rs c w env' st' => rw [e] at h1; exact h1
        | bad => rw [e] at h1; exact h1
end
end Ev

set_option Elab.async false
set_option linter.all false
set_option maxRecDepth 100000
/-! Ev12: loops, comprehensions, pairs, regions -/
namespace Ev
open PySem L2
section
variable {g : Gs} {X : Cx} {W : WX} {ρ ρ1 : List Addr} {σ : L2.St} {H H1 : Hp} {env : Env} {st : St} {e a b c tg : Expr} {ta tb tc t : T} {pos : Pos}
/-- what is walked, as the evaluator has it -/
def tQ (g : Gs) (X : Cx) (W : WX) (q : Qk) (ts : TL) : TI := fun σ H R => ∃ ρ env st, Cfg g X ρ σ H env st ∧
  Post X.K X.mg g (fun ρ' H' ds st' => ∃ is, items st'.objs q ds = some is ∧ ∀ J vs, Cfg g X ρ' σ H' env st' → Reps X.K ρ' ρ' H' ds vs → JFor X.K g.T J st'.objs ds vs is → R J H') ρ H (evs g.cl ts env st) (WE W σ)
theorem evs_one (cl : Call) (t : T) (env : Env) (st : St) : evs cl (.cons t .nil) env st = (ev cl t env st).bind fun x s => .ok [x.d] s := by
  simp only [evs]
  cases ev cl t env st <;> rfl
theorem q_e (ha : PE X a (tE g X W (ev g.cl ta))) : PI X tg a (tQ g X W .e (.cons ta .nil)) := ⟨fun pn z σ H R J h => by
  obtain ⟨ρ, env, st, cf, h⟩ := h
  rw [evs_one] at h
  have go : ∀ (k : Bool), (∀ x st1, ev g.cl ta env st = .ok x st1 → isTupD x.d = k) → wpAny (model X.prog X.w) X.A (eval a X.env) (fun v s1 => wpAny (model X.prog X.w) X.A (pyIter v) (PIE X pn σ tg R) X.xe s1) X.xe z := fun k hk => by
    have base := tE_bind cf h
    cases k with
    | true =>
      refine (pi_tup ha).run pn z σ H R J (tE_mono base fun v H1 ⟨ρ1, x, st1, ex, e1, _, c1, r1, p⟩ => ?_)
      obtain ⟨is, h1, h2⟩ := p ρ1 H1 .refl c1.sr.tab
      obtain ⟨a', xs, rfl, q1, q2⟩ := seq_tup h1 (hk x st1 e1) r1
      exact ⟨a', rfl, ⟨xs, q1⟩, h2 _ _ c1 (Reps.cons r1 Reps.nil) (j_tup h1 (hk x st1 e1))⟩
    | false =>
      refine (pi_list ha).run pn z σ H R J (tE_mono base fun v H1 ⟨ρ1, x, st1, ex, e1, _, c1, r1, p⟩ => ?_)
      obtain ⟨is, h1, h2⟩ := p ρ1 H1 .refl c1.sr.tab
      obtain ⟨a', xs, rfl, q1, q2⟩ := seq_lst c1.sr.st h1 (hk x st1 e1) r1
      exact ⟨a', rfl, ⟨xs, q1⟩, h2 _ _ c1 (Reps.cons r1 Reps.nil) (j_list h1 (hk x st1 e1))⟩
  cases e1 : ev g.cl ta env st with
  | ok x st1 => exact go (isTupD x.d) fun y st2 e2 => by rw [e1] at e2; cases e2; rfl
  | rs c w st1 => exact go true fun y st2 e2 => by rw [e1] at e2; cases e2
  | bad => exact go true fun y st2 e2 => by rw [e1] at e2; cases e2⟩
theorem star1 (h : noStar a = true) : starEach [a] X.env = [(false, eval a X.env)] := star_cons h
theorem rng?_one {x : D} {is : List D} (h : rng? [x] = some is) : ∃ b, x = .int b ∧ -(2 ^ 62) ≤ b ∧ b < 2 ^ 62 ∧ is = rngL 0 b := by
  unfold rng? at h
  split at h
  · rename_i b e
    split at h
    · rename_i c
      simp only [Bool.and_eq_true, decide_eq_true_eq] at c
      simp only [List.cons.injEq, and_true] at e
      exact ⟨b, e, c.1, c.2, (Option.some.inj h).symm⟩
    · cases h
  · rename_i e; simp at e
  · cases h
theorem rng?_two {x y : D} {is : List D} (h : rng? [x, y] = some is) : ∃ a b, x = .int a ∧ y = .int b ∧ (-(2 ^ 62) ≤ a ∧ a < 2 ^ 62 ∧ -(2 ^ 62) ≤ b ∧ b < 2 ^ 62) ∧ is = rngL a b := by
  unfold rng? at h
  split at h
  · rename_i e; simp at e
  · rename_i a b e
    split at h
    · rename_i c
      simp only [Bool.and_eq_true, decide_eq_true_eq] at c
      simp only [List.cons.injEq, and_true] at e
      exact ⟨a, b, e.1, e.2, ⟨c.1.1.1, c.1.1.2, c.1.2, c.2⟩, (Option.some.inj h).symm⟩
    · cases h
  · cases h
theorem piImp {tg iter : Expr} {t t' : TI} (h : PI X tg iter t) (f : ∀ σ H R, t' σ H R → t σ H R) : PI X tg iter t' := ⟨fun pn z σ H R J q => h.run pn z σ H R J (f σ H R q)⟩
/-- values, then what is wanted of them -/
theorem tL_of {Q : List V → Hp → Prop} {f : Env → St → R (List D)} (cf : Cfg g X ρ σ H env st) (h : Post X.K X.mg g (fun ρ' H' ds st' => ∀ vs, Cfg g X ρ' σ H' env st' → Reps X.K ρ' ρ' H' ds vs → Q vs H') ρ H (f env st) (WE W σ)) : tL g X W f σ H Q := by
  refine ⟨ρ, env, st, cf, ?_⟩
  cases e : f env st with
  | ok ds st1 => rw [e] at h; exact fun ρ' H' ex t vs s r => h ρ' H' ex t vs (cf.ext ex s) r
  | rs c w st1 => rw [e] at h; exact h
  | bad => rw [e] at h; exact h
theorem q_rng1 {p : Pos} (hg : Gl X "range") (hm : X.mg "range" = none) (ha : PA X [a] (tL g X W (evs g.cl (.cons ta .nil)))) (hs : noStar a = true) : PI X tg (.Call (.Name "range" p) [a] [] pos) (tQ g X W .rng1 (.cons ta .nil)) :=
  piImp (pi_range1 hg hm ha (star1 hs)) fun σ H R h => by
    obtain ⟨ρ, env, st, cf, h⟩ := h
    refine tL_of cf (Post.imp h fun ρ' H' ds st' ex tb ⟨is, h1, h2⟩ vs c r => ?_)
    cases ds with
    | nil => cases h1
    | cons x ds => cases ds with
      | cons _ _ => cases h1
      | nil =>
        obtain ⟨b, rfl, l1, l2, rfl⟩ := rng?_one h1
        obtain ⟨v, rfl, rv⟩ := reps1 (ds := []) r
        have rv' := rv
        simp only [Rep] at rv'
        subst rv'
        exact ⟨b, rfl, l1, l2, h2 _ _ c r (by have := j_rng (K := X.K) (T := g.T) (objs0 := st'.objs) (ds := [.int b]) (vs := [.int b]) (a := 0) (b := b); simpa using this)⟩
theorem q_rng2 {p : Pos} (hg : Gl X "range") (hm : X.mg "range" = none) (ha : PA X [a, b] (tL g X W (evs g.cl (.cons ta (.cons tb .nil))))) (hs : noStar a = true) (hs2 : noStar b = true) : PI X tg (.Call (.Name "range" p) [a, b] [] pos) (tQ g X W .rng2 (.cons ta (.cons tb .nil))) :=
  piImp (pi_range2 hg hm ha (by rw [star_cons hs, star1 hs2]) (star1 hs2)) fun σ H R h => by
    obtain ⟨ρ, env, st, cf, h⟩ := h
    refine tL_of cf (Post.imp h fun ρ' H' ds st' ex tb ⟨is, h1, h2⟩ vs c r => ?_)
    cases ds with
    | nil => cases h1
    | cons x ds => cases ds with
      | nil => cases h1
      | cons y ds => cases ds with
        | cons _ _ => cases h1
        | nil =>
          obtain ⟨a, b, rfl, rfl, l, rfl⟩ := rng?_two h1
          obtain ⟨u, v, rfl, ru, rv⟩ := reps2 r
          have ru' := ru
          have rv' := rv
          simp only [Rep] at ru' rv'
          subst ru'
          subst rv'
          exact ⟨a, b, rfl, l, h2 _ _ c r j_rng⟩
theorem q_enm {elts : List Expr} {kk : Nat} {p tpos : Pos} (hg : Gl X "enumerate") (hm : X.mg "enumerate" = none) (ha : PA X [a] (tL g X W (evs g.cl (.cons ta .nil)))) (hs : noStar a = true) : PI X (.Tuple elts kk tpos) (.Call (.Name "enumerate" p) [a] [] pos) (tQ g X W .enm (.cons ta .nil)) := ⟨fun pn z σ H R J h => by
  obtain ⟨ρ, env, st, cf, h⟩ := h
  have go : ∀ (k : Bool), (∀ x st1, evs g.cl (.cons ta .nil) env st = .ok [x] st1 → isTupD x = k) → wpAny (model X.prog X.w) X.A (eval (.Call (.Name "enumerate" p) [a] [] pos) X.env) (fun v s1 => wpAny (model X.prog X.w) X.A (pyIter v) (PIE X pn σ (.Tuple elts kk tpos) R) X.xe s1) X.xe z := fun k hk => by
    have conv : ∀ {Q : List V → Hp → Prop}, (∀ ρ' H' x v st' is, evs g.cl (.cons ta .nil) env st = .ok [x] st' → Cfg g X ρ' σ H' env st' → Rep X.K ρ' ρ' H' x v → seqOf st'.objs x = some is → (∀ J, JFor X.K g.T J st'.objs [x] [v] (is.zipIdx.map fun p => .tup [.int p.2, p.1]) → R J H') → Q [v] H') → tL g X W (evs g.cl (.cons ta .nil)) σ H Q := fun {Q} q => by
      refine ⟨ρ, env, st, cf, ?_⟩
      cases e : evs g.cl (.cons ta .nil) env st with
      | rs c w st1 => rw [e] at h; exact h
      | bad => rw [e] at h; exact h
      | ok ds st1 =>
        rw [e] at h
        intro ρ' H' ex t vs s r
        obtain ⟨is, h1, h2⟩ := h ρ' H' ex t
        cases ds with
        | nil => cases h1
        | cons x ds => cases ds with
          | cons _ _ => cases h1
          | nil =>
            obtain ⟨js, h3, rfl⟩ := Option.map_eq_some_iff.mp (show (seqOf st1.objs x).map _ = some is from h1)
            obtain ⟨v, rfl, rv⟩ := reps1 (ds := []) r
            have cf' := cf.ext ex s
            exact q ρ' H' x v st1 js e cf' rv h3 fun J hJ => h2 J [v] cf' r hJ
    cases k with
    | true =>
      refine (pi_enumT hg hm ha (star1 hs)).run pn z σ H R J (conv fun ρ' H' x v st' is e1 c r h3 q => ?_)
      obtain ⟨a', xs, rfl, q1, q2⟩ := seq_tup h3 (hk x st' e1) r
      exact ⟨a', xs, rfl, q1, q _ (j_enmT h3 (hk x st' e1))⟩
    | false =>
      refine (pi_enum hg hm ha (star1 hs)).run pn z σ H R J (conv fun ρ' H' x v st' is e1 c r h3 q => ?_)
      obtain ⟨a', xs, rfl, q1, q2⟩ := seq_lst c.sr.st h3 (hk x st' e1) r
      exact ⟨a', xs, rfl, q1, q _ (j_enm h3 (hk x st' e1))⟩
  cases e1 : evs g.cl (.cons ta .nil) env st with
  | ok ds st1 => cases ds with
    | nil => exact go true fun y st2 e2 => by rw [e1] at e2; cases e2
    | cons x ds => cases ds with
      | nil => exact go (isTupD x) fun y st2 e2 => by rw [e1] at e2; cases e2; rfl
      | cons _ _ => exact go true fun y st2 e2 => by rw [e1] at e2; cases e2
  | rs c w st1 => exact go true fun y st2 e2 => by rw [e1] at e2; cases e2
  | bad => exact go true fun y st2 e2 => by rw [e1] at e2; cases e2⟩
/-! ### for -/
theorem s_for {ps : List Stmt} {s1 : S} {gt : G} {q : Qk} {ts : TL} {iter : Expr} (hp : PassesOwn (model X.prog X.w) X.A X.env X.xe) (hc : X.calm = true) (hi : PI X tg iter (tQ g X W q ts)) (hg : PG X tg (tG g X gt)) (h1 : PSs X ps (tS g X W (exS g.cl s1))) (hs : ∀ x, foldedSetIterable iter X.env x = pure x) :
    PS X (.For tg iter ps [] pos) (tS g X W (exS g.cl (.fr gt q ts s1))) :=
  psI (ps_for hp hc hi hg h1 hs) fun D σ H h => by
    obtain ⟨ρ, env, st, cf, h⟩ := h
    simp only [exS] at h
    refine ⟨ρ, env, st, cf, ?_⟩
    cases e : evs g.cl ts env st with
    | rs c w st1 => rw [e] at h; exact fun ρ' H' dx wv C e' s r n o i => h ρ' σ H' dx wv C e' s r n o i
    | bad => rw [e] at h; exact h
    | ok ds st1 =>
      rw [e] at h
      simp only [R.to] at h
      intro ρ1 H1 e1 t1
      cases ei : items st1.objs q ds with
      | none => rw [ei] at h; exact h.elim
      | some is =>
        rw [ei] at h
        refine ⟨is, rfl, fun J vs c1 r1 hJ => ?_⟩
        have h' := PostO.step e1 h
        refine ⟨fun i m σ H => m = is.length - i ∧ i ≤ is.length ∧ ∃ ρ env s, Cfg g X ρ σ H env s ∧ Reps X.K ρ ρ H ds vs ∧ PostO g X W ρ H (frL (fun s' => still st1.objs s'.objs ds) (frB (exS g.cl s1) gt) (is.drop i) env s) D, ⟨is.length, by simp, Nat.zero_le _, ρ1, env, st1, c1, r1, h'⟩, ?_⟩
        rintro i m σ H ⟨rfl, li, ρ, env, s, cf, rd, h⟩
        by_cases lt : i < is.length
        · have ed : is.drop i = is[i] :: is.drop (i + 1) := List.drop_eq_getElem_cons lt
          rw [ed] at h
          simp only [frL] at h
          split at h
          · rename_i stl
            obtain ⟨_, go⟩ := hJ i ρ H s.objs cf.sr rd stl
            obtain ⟨g1, g2⟩ := go is[i] (List.getElem?_eq_getElem lt)
            refine .inr ⟨g1, fun σ' H' => ∃ ρ' env' s', Cfg g X ρ' σ' H' env' s' ∧ Reps X.K ρ' ρ' H' ds vs ∧ PostO g X W ρ' H' (frL (fun s' => still st1.objs s'.objs ds) (frB (exS g.cl s1) gt) (is.drop (i + 1)) env' s') D, fun σ' H' q => ⟨is.length - (i + 1), by omega, rfl, lt, q⟩, fun x H2 y => ?_⟩
            obtain ⟨ex, sr2, r2⟩ := g2 x H2 y
            have cf2 := cf.ext (st' := s) ex sr2
            have rd2 := rd.mono ex (fun _ m => m) ex.av
            have h2 := PostO.step ex h
            cases ea : asg gt is[i] env with
            | none =>
              have q : frB (exS g.cl s1) gt is[i] env s = .bad := by unfold frB; rw [ea]
              rw [q] at h2
              exact h2.elim
            | some env' =>
              have eb : frB (exS g.cl s1) gt is[i] env s = exS g.cl s1 env' s := by unfold frB; rw [ea]
              rw [eb] at h2
              refine ⟨ρ, env, s.objs, is[i], env', cf2.env, sr2, r2, ea, fun σ2 _ r3 => ⟨ρ, env', s, ⟨r3, sr2⟩, ?_⟩⟩
              cases ee : exS g.cl s1 env' s with
              | nx env2 s2 => rw [ee] at h2; exact fun ρ' σ' H' ex' c => ⟨ρ', env2, s2, c, rd2.mono ex' (fun _ m => m) ex'.av, PostO.step ex' h2⟩
              | ct env2 s2 => rw [ee] at h2; exact fun ρ' σ' H' ex' c => ⟨ρ', env2, s2, c, rd2.mono ex' (fun _ m => m) ex'.av, PostO.step ex' h2⟩
              | br env2 s2 => rw [ee] at h2; exact h2
              | rt x s2 => rw [ee] at h2; exact h2
              | rs c w env2 s2 => rw [ee] at h2; exact h2
              | bad => rw [ee] at h2; exact h2
          · exact h.elim
        · have ei : i = is.length := by omega
          subst ei
          rw [List.drop_length] at h
          simp only [frL] at h
          split at h
          · rename_i stl
            exact .inl ⟨(hJ _ ρ H s.objs cf.sr rd stl).1 rfl, h.here cf⟩
          · exact h.elim
/-! ### regions -/
theorem StRel.back {K : PySem.W.Frag} {objs : List Ob} {n : Nat} {ρ0 : List Addr} (s : StRel K ρ ρ H objs) (l : ∀ k ds, k < n → objs[k]? = some (Ob.lst ds) → D.loL n ds = true) (hn : ρ0.length = n) (pre : ρ0 <+: ρ) : StRel K ρ0 ρ0 H (objs.take n) := by
  have ct : ρ.take n = ρ0 := by
    obtain ⟨t, rfl⟩ := pre
    rw [← hn]; simp
  have q := s.cut l (α' := ρ0) fun a m => pre.subset m
  rw [ct] at q
  exact q
mutual
theorem rep_lo {K : PySem.W.Frag} {ρ α : List Addr} {H : Hp} : ∀ {d : D} {v : V}, Rep K ρ α H d v → D.lo ρ.length d = true
  | .non, _, _ => rfl
  | .bl _, _, _ => rfl
  | .int _, _, _ => rfl
  | .str _, _, _ => rfl
  | .tup ds, v, h => by
    simp only [Rep] at h
    obtain ⟨a, vs, _, _, h3⟩ := h
    simp only [D.lo]
    exact reps_lo h3
  | .lst ds, v, h => by
    simp only [Rep] at h
    obtain ⟨a, vs, _, _, _, h3⟩ := h
    simp only [D.lo]
    exact reps_lo h3
  | .scr ds, v, h => by
    simp only [Rep] at h
    obtain ⟨a, vs, _, _, h3⟩ := h
    simp only [D.lo]
    exact reps_lo h3
  | .ref k, v, h => by
    simp only [Rep] at h
    obtain ⟨a, _, h3⟩ := h
    simp only [D.lo, decide_eq_true_eq]
    exact (List.getElem?_eq_some_iff.mp h3).1
theorem reps_lo {K : PySem.W.Frag} {ρ α : List Addr} {H : Hp} : ∀ {ds : List D} {vs : List V}, Reps K ρ α H ds vs → D.loL ρ.length ds = true
  | [], _, _ => rfl
  | d :: ds, _, h => by
    obtain ⟨v, r, rfl, h2, h3⟩ := h.inv
    simp only [D.loL, Bool.and_eq_true]
    exact ⟨rep_lo h2, reps_lo h3⟩
end
/-- what was there speaks of what was there -/
theorem lo_of {s0 s1 : St} {K : PySem.W.Frag} {ρ0 α : List Addr} {H0 : Hp} (s : StRel K ρ0 α H0 s0.objs) (m : Mono s0.enter s1) (he : escOk s0.objs.length s1.esc = true) : ∀ k ds, k < s0.objs.length → s1.objs[k]? = some (Ob.lst ds) → D.loL s0.objs.length ds = true := fun k ds lt e => by
  cases ek : s0.objs[k] with
  | lst es =>
    have e0 : s0.objs[k]? = some (Ob.lst es) := by rw [List.getElem?_eq_getElem lt, ek]
    obtain ⟨ds', h1, h2⟩ := m.lo k es e0 fun x hx => by
      rw [hx] at he
      simp only [escOk, decide_eq_true_eq] at he
      omega
    rw [e] at h1
    cases h1
    refine h2 _ ?_
    obtain ⟨a, ha⟩ : ∃ a, ρ0[k]? = some a := ⟨ρ0[k]'(by rw [s.len]; exact lt), List.getElem?_eq_getElem _⟩
    obtain ⟨vs, _, r⟩ := s.at_ k a es ha e0
    rw [← s.len]
    exact reps_lo r
end
end Ev

set_option Elab.async false
set_option linter.all false
set_option maxRecDepth 100000
/-! Ev13: regions, pairs, comprehensions -/
namespace Ev
open PySem L2
section
variable {g : Gs} {X : Cx} {W : WX} {ρ ρ1 : List Addr} {σ : L2.St} {H H1 : Hp} {env : Env} {st : St} {e a b c tg : Expr} {ta tb tc t : T} {pos : Pos}
theorem wipe_get {is : List Nat} {env : Env} {i : Nat} {w : Sl} (h : (Ev.wipe env is)[i]? = some w) : w = .no ∨ env[i]? = some w := by
  induction is generalizing env with
  | nil => exact .inr h
  | cons k is ih =>
    simp only [Ev.wipe] at h
    by_cases e : k = i
    · subst e
      rw [List.getElem?_set] at h
      rw [if_pos rfl] at h
      split at h
      · cases h; exact .inl rfl
      · cases h
    · rw [List.getElem?_set_ne e] at h
      exact ih h
theorem wipe_len {is : List Nat} {env : Env} : (Ev.wipe env is).length = env.length := by
  induction is with
  | nil => rfl
  | cons k is ih => simp only [Ev.wipe, List.length_set, ih]
theorem EnvRel.wiped {is : List Nat} (r : EnvRel g X ρ H σ env) : EnvRel g X ρ H σ (Ev.wipe env is) := ⟨by rw [wipe_len]; exact r.len, fun i w e => (by
  rcases wipe_get e with rfl | e
  · trivial
  · exact r.at_ i w e), r.nl.imp (fun z => z) fun n j l ws e => (wipe_get e).elim (fun z => nomatch z) (n j l ws)⟩
theorem EnvRel.low {ρ0 : List Addr} {n : Nat} (r : EnvRel g X ρ H σ env) (hn : ρ0.length = n) (pre : ρ0 <+: ρ) (l : env.all (Sl.lo n) = true) : EnvRel g X ρ0 H σ env := ⟨r.len, fun i w e => (by
  have q := r.at_ i w e
  have lw : Sl.lo n w = true := List.all_eq_true.mp l w (List.mem_of_getElem? e)
  have ct : ρ.take n = ρ0 := by
    obtain ⟨t, rfl⟩ := pre
    rw [← hn]; simp
  cases w with
  | no => trivial
  | val d =>
    obtain ⟨v, h1, h2⟩ := q
    have h3 := Rep.low (α' := ρ0) (fun a m => pre.subset m) (show D.lo n d = true from lw) h2
    rw [ct] at h3
    exact ⟨v, h1, h3⟩
  | fn f => exact q
  | lam l ws => cases lw), r.nl⟩
theorem ss_scope {ps : List Stmt} {s1 : S} {kill : List Nat} (hm : Call.Mono g.cl) (h1 : PSs X ps (tS g X W (exS g.cl s1))) : PSs X ps (tS g X W (exS g.cl (.scope kill s1))) :=
  pssI h1 fun Dn σ H h => by
    obtain ⟨ρ, env, st, cf, h⟩ := h
    simp only [exS] at h
    have mo := mono_exS hm s1 env st.enter
    have cf0 : Cfg g X ρ σ H env st.enter := ⟨cf.env, cf.sr⟩
    refine ⟨ρ, env, st.enter, cf0, ?_⟩
    have leave : ∀ {env' : Env} {s' : St} {k : Env → St → O} {R : L2.St → Hp → Prop}, Ev.Mono st.enter s' → (∀ e s, PostO g X W ρ H (k e s) Dn → ∀ ρ' σ' H', Ext X.K ρ H ρ' H' → Cfg g X ρ' σ' H' e s → R σ' H') → PostO g X W ρ H (leaveS st (Ev.wipe env' kill) s' k) Dn → ∀ ρ' σ' H', Ext X.K ρ H ρ' H' → Cfg g X ρ' σ' H' env' s' → R σ' H' := fun {env' s' k R} m hk p ρ' σ' H' ex c => by
      unfold leaveS at p
      split at p
      · rename_i q
        simp only [Bool.and_eq_true] at q
        have l := lo_of cf.sr.st m q.1
        refine hk _ _ p ρ σ' H' ex.cut ⟨c.env.wiped.low cf.sr.st.len ex.pre q.2, ⟨?_, c.sr.tab⟩⟩
        exact c.sr.st.back l cf.sr.st.len ex.pre
      · exact hk _ _ p ρ' σ' H' ex ⟨c.env.wiped, c.sr⟩
    cases e : exS g.cl s1 env st.enter with
    | nx env' s' => rw [e] at h mo; exact leave (k := .nx) (R := Dn.nx) mo (fun e s p => p) h
    | ct env' s' => rw [e] at h mo; exact leave (k := .ct) (R := Dn.ct) mo (fun e s p => p) h
    | br env' s' => rw [e] at h mo; exact leave (k := .br) (R := Dn.bk) mo (fun e s p => p) h
    | rt x s' => rw [e] at h; exact h
    | rs c w env' s' => rw [e] at h; exact h
    | bad => rw [e] at h; exact h
/-! ### a, b = x, y -/
theorem s_par {i j : Nat} {x y : Str} {px py pt pt2 : Pos} {kt k2 : Nat} (hc : X.calm = true) (hN : X.N.Nodup) (hi : X.N[i]? = some x) (hj : X.N[j]? = some y) (hij : i ≠ j) (hx : X.env.scope.names.lookup x = some .local) (hy : X.env.scope.names.lookup y = some .local)
    (ha : PA X [a, b] (tL g X W (evs g.cl (.cons ta (.cons tb .nil))))) (hw : swappedStores [.Tuple [.Name x px, .Name y py] kt pt] (.Tuple [a, b] k2 pt2) X.env = pure (some [x, y])) : PS X (.Assign [.Tuple [.Name x px, .Name y py] kt pt] (.Tuple [a, b] k2 pt2) pos) (tS g X W (exS g.cl (.asg (.tup (.nm i) (.tup (.nm j) .nil)) (.tup (.cons ta (.cons tb .nil)))))) :=
  psI (ps_par hc hN hi hj hij hx hy ha hw) fun Dn σ H h => by
    obtain ⟨ρ, env, st, cf, h⟩ := h
    simp only [exS, ev] at h
    refine ⟨ρ, env, st, cf, ?_⟩
    cases e : evs g.cl (.cons ta (.cons tb .nil)) env st with
    | rs c w st1 => rw [e] at h; exact fun ρ' H' dx wv C e' s r n o i => h ρ' σ H' dx wv C e' s r n o i
    | bad => rw [e] at h; exact h
    | ok ds st1 =>
      rw [e] at h
      intro ρ1 H1 e1 t1 vs sr r
      have len := evs_len e
      have c1 := cf.ext e1 sr
      cases ds with
      | nil => simp [TL.len] at len
      | cons d1 ds => cases ds with
        | nil => simp [TL.len] at len
        | cons d2 ds => cases ds with
          | cons _ _ => simp [TL.len] at len
          | nil =>
            obtain ⟨u, v, rfl, r1, r2⟩ := reps2 r
            refine ⟨u, v, rfl, ?_⟩
            change PostO g X W ρ H (ofE st1 (asg (.tup (.nm i) (.tup (.nm j) .nil)) (.tup [d1, d2]) env)) Dn at h
            by_cases li : i < env.length
            · by_cases lj : j < env.length
              · have ea : asg (.tup (.nm i) (.tup (.nm j) .nil)) (.tup [d1, d2]) env = some ((env.set i (.val d1)).set j (.val d2)) := by
                  simp only [asg, asgL, li, if_true, List.length_set, lj]
                rw [ea] at h
                exact h ρ1 _ H1 e1 ⟨(c1.env.set li r1).set (by rw [List.length_set]; exact lj) r2, sr⟩
              · have ea : asg (.tup (.nm i) (.tup (.nm j) .nil)) (.tup [d1, d2]) env = none := by
                  simp only [asg, asgL, li, if_true, List.length_set, lj, if_false]
                rw [ea] at h
                exact h.elim
            · have ea : asg (.tup (.nm i) (.tup (.nm j) .nil)) (.tup [d1, d2]) env = none := by
                simp only [asg, li, if_false]
              rw [ea] at h
              exact h.elim
/-- when a pair of names takes a pair of values -/
def parB (sc : Scope) (x y : Str) (px py : Pos) (a b : Expr) : Bool :=
  decide (sc.names.lookup x = some .local) && decide (sc.names.lookup y = some .local) && !decide (x = y) && (py.line == px.line) && noStar a && noStar b && !(foldedForSure 8 a && foldedForSure 8 b) && !(constantsAlone 8 a && constantsAlone 8 b)
theorem par_ok {a b : Expr} {x y : Str} {px py pt pt2 : Pos} {kt k2 : Nat} {env : PySem.Env} (hk : env.scope.kind = .function) (h : parB env.scope x y px py a b = true) : swappedStores [.Tuple [.Name x px, .Name y py] kt pt] (.Tuple [a, b] k2 pt2) env = pure (some [x, y]) := by
  simp only [parB, Bool.and_eq_true, decide_eq_true_eq, Bool.not_eq_true', decide_eq_false_iff_not] at h
  obtain ⟨⟨⟨⟨⟨⟨⟨h1, h2⟩, h3⟩, h4⟩, h5⟩, h6⟩, h7⟩, h8⟩ := h
  have k1 : env.kindOf x = some .local := h1
  have k2 : env.kindOf y = some .local := h2
  have bk : env.blockKind = .function := by unfold PySem.Env.blockKind; rw [hk]; rfl
  have ed : [x, y].eraseDups = [x, y] := by
    have : (y == x) = false := by simpa using fun z : y = x => h3 z.symm
    simp [List.eraseDups_cons, this]
  unfold swappedStores
  refine (if_neg (by simp [bk])).trans ?_
  refine (if_neg fun z => ?_).trans ?_
  · obtain ⟨v, hv, q⟩ := List.any_eq_true.mp z
    have hv' : v = a ∨ v = b := by simpa using hv
    have nv : noStar v = true := hv'.elim (fun e => e ▸ h5) fun e => e ▸ h6
    cases v <;> first | exact Bool.noConfusion q | exact Bool.noConfusion nv
  · have l4 : py.line = px.line := eq_of_beq h4
    simp [Expr.pos, k1, k2, l4, ed, h7, h8]
end
end Ev

set_option Elab.async false
set_option linter.all false
set_option maxRecDepth 100000
/-! Ev14: list comprehensions -/
namespace Ev
open PySem L2
/-! ### readings without closures -/
def Env0 (K : PySem.W.Frag) (mg : Str → Option Value) (g : Gs) (ρ : List Addr) (H : Hp) (σ : L2.St) (env : Env) : Prop :=
  env.length = σ.length ∧ ∀ (i : Nat) w, env[i]? = some w → Sl0 K mg g.inf ρ ρ H w (NdefX.slotAt σ i)
def noC : XK := fun _ _ _ => False
def noW : WX := fun _ _ _ _ => False
def tE0 (K : PySem.W.Frag) (mg : Str → Option Value) (g : Gs) (f : Env → St → R Ev.X) : TE := fun σ H Q => ∃ ρ env st, Env0 K mg g ρ H σ env ∧ Sr K g.T ρ H st.objs ∧ PostX K mg g ρ H (f env st) Q noC
def tB0 (K : PySem.W.Frag) (mg : Str → Option Value) (g : Gs) (f : Env → St → R Bool) : TT := fun σ H Q => ∃ ρ env st, Env0 K mg g ρ H σ env ∧ Sr K g.T ρ H st.objs ∧ Post K mg g (fun ρ' H' b st' => Sr K g.T ρ' H' st'.objs → Q b H') ρ H (f env st) noC
def tG0 (K : PySem.W.Frag) (mg : Str → Option Value) (g : Gs) (gt : G) : TG := fun v σ H Q => ∃ ρ env objs d env', Env0 K mg g ρ H σ env ∧ Sr K g.T ρ H objs ∧ Rep K ρ ρ H d v ∧ asg gt d env = some env' ∧ ∀ σ', But gt.vars σ σ' → Env0 K mg g ρ H σ' env' → Q σ' H
section
variable {g : Gs} {X : Cx} {ρ ρ1 : List Addr} {σ : L2.St} {H H1 : Hp} {env : Env} {st : St} {e : Expr}
theorem Env0.noLam {K : PySem.W.Frag} {mg : Str → Option Value} (h : Env0 K mg g ρ H σ env) : NoLam env := fun i l ws e => h.2 i _ e
theorem Env0.rel (h : Env0 X.K X.mg g ρ H σ env) : EnvRel g X ρ H σ env := ⟨h.1, fun i w e => (by
  have q := h.2 i w e
  cases w with
  | no => exact q
  | val d => exact q
  | fn f => exact q
  | lam l ws => exact q.elim), .inr h.noLam⟩
theorem EnvRel.env0 (h : EnvRel g X ρ H σ env) (n : NoLam env) : Env0 X.K X.mg g ρ H σ env := ⟨h.len, fun i w e => by
  have q := h.at_ i w e
  cases w with
  | no => exact q
  | val d => exact q
  | fn f => exact q
  | lam l ws => exact (n i l ws e).elim⟩
theorem Env0.ext {K : PySem.W.Frag} {mg : Str → Option Value} (h : Env0 K mg g ρ H σ env) (e : Ext K ρ H ρ1 H1) : Env0 K mg g ρ1 H1 σ env := ⟨h.1, fun i w q => (h.2 i w q).mono e (fun _ m => m) e.av⟩
mutual
theorem asg_noLam : ∀ {gt : G} {d : D} {env env' : Env}, asg gt d env = some env' → NoLam env → NoLam env'
  | .nm i, d, env, env', h, n => by
    simp only [asg] at h
    split at h
    · cases h
      intro j l ws e
      rw [List.getElem?_set] at e
      split at e
      · cases e
      · exact n j l ws e
    · cases h
  | .nil, d, env, env', h, n => by simp only [asg] at h; cases h
  | .tup g1 r, d, env, env', h, n => by
    simp only [asg] at h
    split at h
    · split at h
      · rename_i e1
        exact asgL_noLam h (asg_noLam e1 n)
      · cases h
    · cases h
theorem asgL_noLam : ∀ {gt : G} {ds : List D} {env env' : Env}, asgL gt ds env = some env' → NoLam env → NoLam env'
  | .nil, [], _, _, h, n => by simp only [asgL] at h; cases h; exact n
  | .nil, _ :: _, _, _, h, n => by simp only [asgL] at h; cases h
  | .tup g1 r, [], _, _, h, n => by simp only [asgL] at h; cases h
  | .tup g1 r, d :: ds, env, env', h, n => by
    simp only [asgL] at h
    split at h
    · rename_i e1
      exact asgL_noLam h (asg_noLam e1 n)
    · cases h
  | .nm _, _, _, _, h, n => by simp only [asgL] at h; cases h
end
theorem pe0 {f : Env → St → R Ev.X} (h : PE X e (tE g X noW f)) : PE X e (tE0 X.K X.mg g f) := peImp h fun σ H Q ⟨ρ, env, st, h1, h2, h3⟩ => ⟨ρ, env, st, ⟨h1.rel, h2⟩, h3⟩
theorem pt0 {f : Env → St → R Bool} (h : PT X e (tB' g X noW f)) : PT X e (tB0 X.K X.mg g f) := ptImp h fun σ H Q ⟨ρ, env, st, h1, h2, h3⟩ => ⟨ρ, env, st, ⟨h1.rel, h2⟩, h3⟩
theorem pg0 {gt : G} (h : PG X e (tG g X gt)) : PG X e (tG0 X.K X.mg g gt) := pgImp h fun v σ H Q ⟨ρ, env, objs, d, env', h1, h2, h3, h4, h5⟩ =>
  ⟨ρ, env, objs, d, env', h1.rel, h2, h3, h4, fun σ' b r => h5 σ' b (r.env0 (asg_noLam h4 h1.noLam))⟩
theorem ptsImp {es : List Expr} {t t' : TT} (h : PTs X es t) (f : ∀ σ H Q, t' σ H Q → t σ H Q) : PTs X es t' := ⟨fun pn z σ H Q J q => h.run pn z σ H Q J (f σ H Q q)⟩
theorem ts_nil : PTs X [] (tB0 X.K X.mg g (evc g.cl .nil)) := ptsImp pts_nil fun σ H Q ⟨ρ, env, st, h1, h2, h3⟩ => by
  simp only [evc] at h3
  exact h3 ρ H .refl h2.tab h2
theorem evc_one (cl : Call) (t : T) (env : Env) (st : St) : evc cl (.cons t .nil) env st = evt cl t env st := by
  simp only [evc, evt]
  cases ev cl t env st with
  | ok x s =>
    simp only [R.bind]
    cases truth s.objs x.d with
    | none => rfl
    | some b => cases b <;> rfl
  | rs c w s => rfl
  | bad => rfl
theorem ts_one {t : T} (h : PT X e (tT g X noW t)) : PTs X [e] (tB0 X.K X.mg g (evc g.cl (.cons t .nil))) := by
  have z : evc g.cl (.cons t .nil) = evt g.cl t := funext fun env => funext fun st => evc_one g.cl t env st
  rw [z]
  exact pts_one (pt0 h)
/-! ### the block's own names -/
theorem wipe_at {σ : L2.St} {j : Nat} : ∀ {vs : List Nat}, (L2.wipe σ vs)[j]? = if j ∈ vs then (if j < σ.length then some none else none) else σ[j]?
  | [] => by simp [L2.wipe]
  | v :: vs => by
    simp only [L2.wipe]
    rw [List.getElem?_set, wipe_at (vs := vs), L2.wipe_length]
    by_cases e : v = j
    · subst e; simp
    · have e' : ¬ j = v := fun z => e z.symm
      simp [e, e']
theorem wipe_but {σ2 : L2.St} {vs js : List Nat} (b : But js (L2.wipe σ vs) σ2) (sub : ∀ j ∈ js, j ∈ vs) : L2.wipe σ2 vs = L2.wipe σ vs := by
  refine List.ext_getElem? fun j => ?_
  have len : σ2.length = σ.length := b.1.trans (L2.wipe_length _ _)
  rw [wipe_at, wipe_at, len]
  by_cases m : j ∈ vs
  · rw [if_pos m, if_pos m]
  · rw [if_neg m, if_neg m, b.2 j fun z => m (sub j z), wipe_at, if_neg m]
theorem wipe_no {j : Nat} {w : Sl} : ∀ {is : List Nat} {env : Env}, (Ev.wipe env is)[j]? = some w → j ∈ is → w = .no
  | k :: is, env, h, m => by
    simp only [Ev.wipe] at h
    rw [List.getElem?_set] at h
    by_cases e : k = j
    · rw [if_pos e] at h
      split at h
      · cases h; rfl
      · cases h
    · rw [if_neg e] at h
      exact wipe_no h ((List.mem_cons.mp m).resolve_left fun z => e z.symm)
theorem EnvRel.blk {own : List Nat} (r : EnvRel g X ρ H σ env) : Env0 X.K X.mg g ρ H (L2.wipe σ own) (noL (Ev.wipe env own)) := by
  refine ⟨by simp only [noL, List.length_map]; rw [wipe_len, L2.wipe_length]; exact r.len, fun i w e => ?_⟩
  unfold noL at e
  rw [List.getElem?_map] at e
  obtain ⟨w0, e0, rfl⟩ := Option.map_eq_some_iff.mp e
  by_cases m : i ∈ own
  · rw [wipe_no e0 m]; trivial
  · rcases wipe_get e0 with rfl | e1
    · trivial
    · have q := r.at_ i w0 e1
      have sl : NdefX.slotAt (L2.wipe σ own) i = NdefX.slotAt σ i := by unfold NdefX.slotAt; rw [wipe_at, if_neg m]
      rw [sl]
      cases w0 with
      | no => trivial
      | val d => exact q
      | fn f => exact q
      | lam l ws => trivial
/-! ### the comprehension -/
theorem mono_lcB {cl : Call} (hm : cl.Mono) {cs : TL} {el : T} {gt : G} {env : Env} (d : D) (s : St) : (lcB (evc cl cs) (ev cl el) gt env d s).Mono s := by
  unfold lcB
  split
  · refine (mono_evc hm cs _ s).bind fun b s3 _ => ?_
    split
    · exact (mono_ev hm el _ s3).bind fun x s4 _ => Mono.refl s4
    · exact Mono.refl s3
  · trivial
theorem lc_ok {W : WX} {own : List Nat} {gt : G} {q : Qk} {ts cs : TL} {el : T} {Q : VK} (hm : g.cl.Mono) (sub : ∀ j ∈ gt.vars, j ∈ own)
    (h : tE g X W (ev g.cl (.lc own gt q ts cs el)) σ H Q) : L2.tLc (tQ g X W q ts) (tG0 X.K X.mg g gt) (tB0 X.K X.mg g (evc g.cl cs)) (tE0 X.K X.mg g (ev g.cl el)) own σ H Q := by
  obtain ⟨ρ, env, st, cf, h⟩ := h
  simp only [ev] at h
  refine ⟨ρ, env, st, cf, ?_⟩
  cases e : evs g.cl ts env st with
  | rs c w st1 => rw [e] at h; exact h
  | bad => rw [e] at h; exact h
  | ok ds st1 =>
    rw [e] at h
    simp only [R.bind] at h
    intro ρ1 H1 e1 t1
    cases ei : items st1.objs q ds with
    | none => rw [ei] at h; exact h.elim
    | some is =>
      rw [ei] at h
      simp only at h
      refine ⟨is, rfl, fun J vs c1 r1 hJ D hD => ?_⟩
      have h' := PostX.step e1 h
      clear h
      generalize eF : lcB (evc g.cl cs) (ev g.cl el) gt (noL (Ev.wipe env own)) = F at h'
      generalize eS : (fun s' : St => still st1.objs s'.objs ds) = S at h'
      generalize eW : lcL st1.objs.length S F is ⟨st1.objs ++ [.lst []], none⟩ = whole at h'
      have mF : ∀ d s, (F d s).Mono s := fun d s => by rw [← eF]; exact mono_lcB hm d s
      have len1 : ρ1.length = st1.objs.length := c1.sr.st.len
      have nD : D ∉ ρ1 := fun m => by
        obtain ⟨vs, z⟩ := c1.sr.st.mem m
        rw [hD] at z; cases z
      refine ⟨fun i m H => m = is.length - i ∧ i ≤ is.length ∧ ∃ ρ s, Ext X.K ρ1 H1 ρ H ∧ (ρ1 ++ [D]) <+: ρ ∧ Env0 X.K X.mg g ρ H (L2.wipe σ own) (noL (Ev.wipe env own)) ∧ Sr X.K g.T ρ H s.objs ∧ Reps X.K ρ ρ H ds vs ∧ whole = lcL st1.objs.length S F (is.drop i) s, ⟨is.length, by simp, Nat.zero_le _, ?_⟩, ?_⟩
      · have x1 : Ext X.K ρ1 H1 (ρ1 ++ [D]) (upd H1 D (.lst [])) := Ext.box (Ext.upd hD) (Nw.of hD)
        refine ⟨ρ1 ++ [D], ⟨st1.objs ++ [.lst []], none⟩, x1, List.prefix_refl _, c1.env.blk.ext x1, ⟨?_, c1.sr.tab.ext (fun b o z => by rw [upd_ne fun w => by rw [w, hD] at z; cases z]; exact z)⟩, r1.mono x1 (fun _ m => m) x1.av, by rw [List.drop_zero]; exact eW.symm⟩
        have x2 : Ext X.K ρ1 H1 ρ1 (upd H1 D (.lst [])) := Ext.upd hD
        refine StRel.box (vs := []) (c1.sr.st.keep x2 (fun a m => upd_ne fun z => nD (z ▸ m)) (fun _ m => m) fun a m => ?_) nD (by unfold upd; rw [if_pos rfl]) Reps.nil
        rcases List.mem_cons.mp m with rfl | m
        · exact .inr (Nw.of hD)
        · exact .inl m
      rintro i m H ⟨rfl, li, ρ, s, ex, pre, en, sr, rd, ew⟩
      by_cases lt : i < is.length
      · have ed : is.drop i = is[i] :: is.drop (i + 1) := List.drop_eq_getElem_cons lt
        rw [ed] at ew
        simp only [lcL] at ew
        split at ew
        · rename_i stl
          rw [← eS] at stl
          obtain ⟨_, go⟩ := hJ i ρ H s.objs sr rd stl
          obtain ⟨g1, g2⟩ := go is[i] (List.getElem?_eq_getElem lt)
          refine .inr ⟨g1, fun H => ∃ ρ s, Ext X.K ρ1 H1 ρ H ∧ (ρ1 ++ [D]) <+: ρ ∧ Env0 X.K X.mg g ρ H (L2.wipe σ own) (noL (Ev.wipe env own)) ∧ Sr X.K g.T ρ H s.objs ∧ Reps X.K ρ ρ H ds vs ∧ whole = lcL st1.objs.length S F (is.drop (i + 1)) s, fun H' q => ⟨is.length - (i + 1), by omega, rfl, lt, q⟩, fun x H2 y => ?_⟩
          obtain ⟨ex2, sr2, r2⟩ := g2 x H2 y
          have en2 := en.ext ex2
          have nb : whole ≠ .bad := fun z => by rw [z] at h'; exact h'
          cases ea : asg gt is[i] (noL (Ev.wipe env own)) with
          | none =>
            have q : F is[i] s = .bad := by rw [← eF]; unfold lcB; rw [ea]
            rw [q] at ew
            exact (nb ew).elim
          | some env' =>
            have q : F is[i] s = (evc g.cl cs env' s).bind fun b s => if b then (ev g.cl el env' s).bind fun x s => .ok (some x.d) s else .ok none s := by rw [← eF]; unfold lcB; rw [ea]
            rw [q] at ew
            refine ⟨ρ, _, s.objs, is[i], env', en2, sr2, r2, ea, fun σ2 b2 r3 => ⟨wipe_but b2 sub, ρ, env', s, r3, sr2, ?_⟩⟩
            cases ec : evc g.cl cs env' s with
            | bad => rw [ec] at ew; exact (nb ew).elim
            | rs c w s2 => rw [ec] at ew; exact (nb ew).elim
            | ok b s2 =>
              rw [ec] at ew
              intro ρ3 H3 ex3 t3 sr3
              cases b with
              | false =>
                rw [if_neg (by decide)]
                exact ⟨ρ3, s2, ex.trans (ex2.trans ex3), pre.trans ex3.pre, en2.ext ex3, sr3, (rd.mono ex2 (fun _ m => m) ex2.av).mono ex3 (fun _ m => m) ex3.av, ew⟩
              | true =>
                rw [if_pos rfl]
                refine ⟨ρ3, env', s2, r3.ext ex3, sr3, ?_⟩
                cases ee : ev g.cl el env' s2 with
                | bad => simp only [R.bind, if_true, ee] at ew; exact (nb ew).elim
                | rs c w s3 => simp only [R.bind, if_true, ee] at ew; exact (nb ew).elim
                | ok x3 s3 =>
                  simp only [R.bind, if_true, ee] at ew
                  intro ρ4 H4 ex4 t4 v4 rx4
                  have sr4 := rx4.frz.1
                  have rv4 := rx4.frz.2
                  have ex' : Ext X.K ρ1 H1 ρ4 H4 := ex.trans (ex2.trans (ex3.trans ex4))
                  have pre4 : (ρ1 ++ [D]) <+: ρ4 := pre.trans (ex3.pre.trans ex4.pre)
                  have at4 : ρ4[st1.objs.length]? = some D := by
                    obtain ⟨t, rfl⟩ := pre4
                    rw [← len1]; simp
                  obtain ⟨acc, us, ob, hD4, ra⟩ := sr4.ob at4
                  rw [ob] at ew
                  simp only at ew
                  split at ew
                  · rename_i sz
                    have exw : Ext X.K ρ4 H4 ρ4 (upd H4 D (.lst (us ++ [v4]))) := Ext.write hD4 (List.mem_of_getElem? at4)
                    have ra' := (ra.app (Reps.cons rv4 Reps.nil))
                    have xx := ex2.trans (ex3.trans (ex4.trans exw))
                    exact ⟨us, hD4, by rw [← ra.len]; exact sz, ρ4, _, ex'.trans exw, pre4, en.ext xx, ⟨sr4.write at4 hD4 ra', tabs_write t4 hD4⟩, rd.mono xx (fun _ m => m) xx.av, ew⟩
                  · exact (nb ew).elim
        · rw [ew] at h'; exact h'.elim
      · have ei : i = is.length := by omega
        subst ei
        rw [List.drop_length] at ew
        simp only [lcL] at ew
        split at ew
        · rename_i stl
          have stl' := stl
          rw [← eS] at stl'
          refine .inl ⟨(hJ _ ρ H s.objs sr rd stl').1 rfl, ?_⟩
          have mo := mono_lcL (n := st1.objs.length) (st := S) mF is ⟨st1.objs ++ [.lst []], none⟩
          rw [eW, ew] at mo
          rw [ew] at h'
          simp only [R.bind] at h'
          have mo2 : Ev.Mono st1.enter s := (mono_more st1.enter (.lst [])).trans mo
          have atn : ρ[st1.objs.length]? = some D := by
            obtain ⟨t, rfl⟩ := pre
            rw [← len1]; simp
          obtain ⟨out, us, ob, hDo, ro⟩ := sr.st.ob atn
          unfold lcE at h'
          rw [ob] at h'
          simp only at h'
          split at h'
          · rename_i c
            simp only [Bool.and_eq_true] at c
            have l := lo_of c1.sr.st mo2 c.1.2
            have sub2 : ∀ a ∈ D :: ρ1, a ∈ ρ := fun a m => by
              rcases List.mem_cons.mp m with rfl | m
              · exact List.mem_of_getElem? atn
              · exact ex.pre.subset m
            have ct : ρ.take st1.objs.length = ρ1 := by
              obtain ⟨t, rfl⟩ := pre
              rw [← len1, List.append_assoc]; simp
            refine h' ρ1 H ex.cut sr.tab (.ref D) ⟨D, us, rfl, Nw.of hD, nD, hDo, ?_, ?_⟩
            · have z := sr.st.cut l sub2
              rw [ct] at z
              exact z
            · have z := ro.low (n := st1.objs.length) sub2 c.2
              rw [ct] at z
              exact z
          · refine h' ρ H ex sr.tab (.ref D) ⟨sr.st, ?_⟩
            simp only [Rep]
            exact ⟨D, rfl, atn⟩
        · rw [ew] at h'; exact h'.elim
/-- a fresh list becomes an object -/
theorem box_E {W : WX} {ta : T} {Q : VK} (h : tE g X W (ev g.cl (.box ta)) σ H Q) : tE g X W (ev g.cl ta) σ H Q := by
  obtain ⟨ρ, env, st, cf, h⟩ := h
  simp only [ev] at h
  refine ⟨ρ, env, st, cf, ?_⟩
  cases e : ev g.cl ta env st with
  | rs c w st1 => rw [e] at h; exact h
  | bad => rw [e] at h; exact h
  | ok x st1 =>
    rw [e] at h
    intro ρ1 H1 e1 t u rx
    cases x with
    | v d =>
      cases d with
      | ref k => exact h ρ1 H1 e1 t u rx
      | _ => exact h.elim
    | n ds =>
      obtain ⟨p, vs, rfl, h2, h3, h4, h5, h6⟩ := rx
      refine h (ρ1 ++ [p]) H1 (e1.box h2) t (.ref p) ⟨h5.box h3 h4 h6, ?_⟩
      simp only [Rep]
      exact ⟨p, rfl, by rw [← h5.len]; simp⟩
/-- what a comprehension is made of -/
structure LcOk (g : Gs) (X : Cx) (W : WX) (elt tg iter : Expr) (ifs : List Expr) (scope : Scope) (own : List (Str × Nat)) (gt : G) (q : Qk) (ts cs : TL) (el : T) : Prop where
  calm : X.calm = true
  nd : X.N.Nodup
  mono : g.cl.Mono
  sub : ∀ j ∈ gt.vars, j ∈ own.map (·.2)
  it : PI X tg iter (tQ g X W q ts)
  blk : BlkOk X.N X.env.scope scope own
  tg : ∀ (s : Shared) (H : Hp) (C : Addr) (cl : List (Str × Addr)) (fp : List Addr), PG (X.blk s H scope (compEnvC scope cl C X.env) fp) tg (tG g (X.blk s H scope (compEnvC scope cl C X.env) fp) gt)
  ts : ∀ (s : Shared) (H : Hp) (C : Addr) (cl : List (Str × Addr)) (fp : List Addr), PTs (X.blk s H scope (compEnvC scope cl C X.env) fp) ifs (tB0 X.K X.mg g (evc g.cl cs))
  el : ∀ (s : Shared) (H : Hp) (C : Addr) (cl : List (Str × Addr)) (fp : List Addr), PE (X.blk s H scope (compEnvC scope cl C X.env) fp) elt (tE g (X.blk s H scope (compEnvC scope cl C X.env) fp) noW (ev g.cl el))
  fold : ∀ x, foldedSetIterable iter X.env x = pure x
section
variable {W : WX} {elt tg iter : Expr} {ifs : List Expr} {scope : Scope} {own : List (Str × Nat)} {gt : G} {q : Qk} {ts cs : TL} {el : T} {pos spos py : Pos}
theorem s_lc (ok : LcOk g X W elt tg iter ifs scope own gt q ts cs el) : PE X (.ListComp elt [⟨tg, iter, ifs, 0⟩] scope pos) (tE g X W (ev g.cl (.lc (own.map (·.2)) gt q ts cs el))) :=
  peImp (pe_lc ok.calm ok.nd ok.it ok.blk (fun s H C cl fp => pg0 (ok.tg s H C cl fp)) ok.ts (fun s H C cl fp => pe0 (ok.el s H C cl fp)) ok.fold) fun σ H Q h => lc_ok ok.mono ok.sub h
theorem set_of {i : Nat} {ta : T} {t : TE} {D : Ends} (sub : ∀ Q, tE g X W (ev g.cl ta) σ H Q → t σ H Q) (h : tS g X W (exS g.cl (.asg (.nm i) ta)) D σ H) : tAsg t (gName i) D σ H := by
  obtain ⟨ρ, env, st, cf, h⟩ := h
  simp only [exS] at h
  refine sub _ (tE_mono (tE_to cf h) fun v H1 ⟨ρ1, x, st1, _, _, _, c1, r1, h1⟩ => ?_)
  by_cases l : i < env.length
  · have e : asg (.nm i) x.d env = some (env.set i (.val x.d)) := by simp only [asg, l, if_true]
    rw [e] at h1
    exact h1 ρ1 _ H1 .refl ⟨c1.env.set l r1, c1.sr⟩
  · have e : asg (.nm i) x.d env = none := by simp only [asg, l, if_false]
    rw [e] at h1
    exact h1.elim
theorem s_setLc {i : Nat} {y : Str} (ok : LcOk g X W elt tg iter ifs scope own gt q ts cs el) (hy : X.N[i]? = some y) (hyl : X.env.scope.names.lookup y = some .local) (hsw : swapsWith (.ListComp elt [⟨tg, iter, ifs, 0⟩] scope pos) (some (.Name y py)) spos.line X.env = pure true) :
    PS X (.Assign [.Name y py] (.ListComp elt [⟨tg, iter, ifs, 0⟩] scope pos) spos) (tS g X W (exS g.cl (.asg (.nm i) (.lc (own.map (·.2)) gt q ts cs el)))) :=
  psI (ps_setLc ok.calm ok.nd hy hyl hsw ok.it ok.blk (fun s H C cl fp => pg0 (ok.tg s H C cl fp)) ok.ts (fun s H C cl fp => pe0 (ok.el s H C cl fp)) ok.fold) fun D σ H h => set_of (fun Q z => lc_ok ok.mono ok.sub z) h
theorem s_setLcB {i : Nat} {y : Str} (ok : LcOk g X W elt tg iter ifs scope own gt q ts cs el) (hy : X.N[i]? = some y) (hyl : X.env.scope.names.lookup y = some .local) (hsw : swapsWith (.ListComp elt [⟨tg, iter, ifs, 0⟩] scope pos) (some (.Name y py)) spos.line X.env = pure true) :
    PS X (.Assign [.Name y py] (.ListComp elt [⟨tg, iter, ifs, 0⟩] scope pos) spos) (tS g X W (exS g.cl (.asg (.nm i) (.box (.lc (own.map (·.2)) gt q ts cs el))))) :=
  psI (ps_setLc ok.calm ok.nd hy hyl hsw ok.it ok.blk (fun s H C cl fp => pg0 (ok.tg s H C cl fp)) ok.ts (fun s H C cl fp => pe0 (ok.el s H C cl fp)) ok.fold) fun D σ H h => set_of (fun Q z => lc_ok ok.mono ok.sub (box_E z)) h
end
end
end Ev

set_option Elab.async false
set_option linter.all false
set_option maxRecDepth 100000
/-! Ev15: try with clauses that each keep the error by a name -/
namespace Ev
open PySem L2
abbrev CTS := Addr → Value → Option Addr → TS
/-- the slot i is empty behind a clause -/
def Ends.gone (i : Nat) (D : Ends) : Ends := { nx := fun σ H => D.nx (σ.set i none) H, rt := D.rt, bk := fun σ H => D.bk (σ.set i none) H, ct := fun σ H => D.ct (σ.set i none) H }
/-- what the clauses `except C as n` wish of an error -/
def wAll (K : PySem.W.Frag) (i : Nat) (out : WX) (D : Ends) : List (Value × CTS) → WX
  | [] => out
  | (c, ts) :: r => fun C d σ H => ∃ k, PySem.W.exmOne K C c = some k ∧ (k = true → ∀ a, H a = none → ts a C d (Ends.gone i D) (σ.set i (some (.ref a))) H) ∧ (k = false → wAll K i out D r C d σ H)
/-- a clause's suite does what it says, whatever was caught -/
def SuiteOk (X : Cx) (ps : List Stmt) (ts : CTS) : Prop := ∀ (a : Addr) (o : Obj) (C : Value) (d : Option Addr) (pn : List (Addr × Obj)), Zc C d o → (∃ vs, o.data = .fields vs) → PSs (X.suite a ((a, o) :: pn)) ps (ts a C d)
inductive Clauses (X : Cx) (n : Str) : List ExceptHandler → List (Value × CTS) → Prop
  | nil : Clauses X n [] []
  | cons {x : Str} {c : Value} {ts : CTS} {b : Stmt} {ps : List Stmt} {p q : Pos} {hs : List ExceptHandler} {l : List (Value × CTS)} (nm : Names X x c) (ok : SuiteOk X (b :: ps) ts) (r : Clauses X n hs l) :
      Clauses X n (.ExceptHandler (some (.Name x p)) (some n) (b :: ps) q :: hs) ((c, ts) :: l)
/-- an error stands before the clauses; s is the state -/
structure Caught (X : Cx) (pins : List (Addr × Obj)) (σ : L2.St) (H : Hp) (C : Value) (d : Option Addr) (a : Addr) (B : Heap) (s : Shared) : Prop where
  fl : HandSPX.FlyingZ B (X.env :: X.outer) a (Zc C d) s.heap
  na : H a = none
  inv : ∀ h, HandSPX.FlyingZ B (X.env :: X.outer) a (Zc C d) h → s.heap.UpToSlots h → Inv X pins σ H { s with heap := h }
  out : ∀ h W, HandSPX.HeldZ B (X.env :: X.outer) a (Zc C d) X.env.locals h → s.heap.UpToSlots h → W C d σ H → XE X W (.ref a) { s with heap := h }
section
variable {X : Cx} {pins : List (Addr × Obj)} {σ : L2.St} {H : Hp} {C : Value} {d : Option Addr} {a : Addr} {B : Heap} {s : Shared} {i : Nat} {n : Str} {out : WX} {D : Ends}
theorem not_frame {l : List PySem.Env} {h : Heap} {o : Obj} {vs : Array Value} (f : h.FunFrames B l) (e : h.get? a = some o) (q : o.data = .fields vs) : a ∉ frs l := fun m => by
  obtain ⟨_, u, e2, no⟩ := f.mem m
  cases e.symm.trans e2
  exact no _ q
/-- in a clause's suite -/
theorem Caught.suite (t : Caught X pins σ H C d a B s) (fr : X.env.frame = some X.env.locals) {h : Heap} (f : HandSPX.FlyingZ B (X.env :: X.outer) a (Zc C d) h) (up : s.heap.UpToSlots h) :
    ∃ o vs, h.get? a = some o ∧ Zc C d o ∧ o.data = .fields vs ∧ Inv (X.suite a ((a, o) :: (X.pn ++ pins))) [] σ H { s with heap := h } := by
  obtain ⟨o, vs, e, z, q⟩ := f.there
  have nf := not_frame f.2.2.1 e q
  refine ⟨o, vs, e, z, q, (t.inv h f up).suite e q t.na (fun w => nf ?_) fun m => nf ?_⟩
  · exact List.mem_filterMap.mpr ⟨X.env, .head _, by rw [fr, w]⟩
  · obtain ⟨v, m1, m2⟩ := List.mem_filterMap.mp m
    exact List.mem_filterMap.mpr ⟨v, .tail _ m1, m2⟩
/-- no clause is left -/
theorem Caught.nobody (t : Caught X pins σ H C d a B s) (fr : X.env.frame = some X.env.locals) (tk : Takes X out) (w : out C d σ H) :
    wpAny (model X.prog X.w) X.A (handleBy (.ref a) X.env []) (SP X pins D) X.xe s := by
  refine wpAny_handleBy_nil ?_
  have f := t.fl
  obtain ⟨_, _, _, o, vs, tb, _, _, e, _, q, e1, _⟩ := id f
  unfold PySem.passOn
  refine wpAny_bind (wpAny_field e q e1 ?_)
  rw [if_neg (by simp)]
  have last : wpAny (model X.prog X.w) X.A (setFlight (.ref a) X.env.frame) (fun _ z => wpAny (model X.prog X.w) X.A (throw (.ref a) : Sem Flow) (SP X pins D) X.xe z) X.xe s := by
    rw [fr]
    exact HandSPX.setFlight_upZ f fun h hh up => wpAny_throw (tk _ _ (t.out h out hh up w))
  first
    | exact wpAny_bind (wpAny_pure (wpAny_bind last))
    | exact wpAny_bind last
theorem Caught.all (t : Caught X pins σ H C d a B s) (ok : X.Ok) (fr : X.env.frame = some X.env.locals) (nd : X.N.Nodup) (hi : X.N[i]? = some n) (hl : X.env.kindOf n = some .local) (tk : Takes X out) :
    ∀ {hs : List ExceptHandler} {l : List (Value × CTS)}, Clauses X n hs l → wAll X.K i out D l C d σ H → wpAny (model X.prog X.w) X.A (handleBy (.ref a) X.env hs) (SP X pins D) X.xe s := by
  intro hs l cl
  induction cl with
  | nil => exact fun w => t.nobody fr tk w
  | @cons x c ts b ps p q hs l nm sok r ih =>
    rintro ⟨k, ek, yes, no⟩
    obtain ⟨o, vs, eo, zo, qo, S⟩ := t.suite fr t.fl (Heap.UpToSlots.refl _)
    refine wpAny_handleBy_cons (codeAny_handlers_test ?_) (by intro z; cases z)
    have ty : PySem.W.Looks (model X.prog X.w) s.heap (typeOf (.ref a)) C := fun A Q E z kk w => wpAny_typeOf_ref (kk _ _ eo) (by rw [zo.1]; exact w)
    have look := PySem.W.exm_one (M := model X.prog X.w) (t.inv _ t.fl (Heap.UpToSlots.refl _)).kIn ty ek
    have nam : ∀ {Q E : Value → Shared → Prop}, Q c s → wpAny (model X.prog X.w) (X.A.mark (some (.ref a))) (eval (.Name x p) X.env) Q E s := fun {Q E} w => by
      obtain ⟨g1, g2, g3 | ⟨g3, g4, g5⟩⟩ := nm
      · exact ld_glob (X := X.suite a ((a, o) :: (X.pn ++ pins))) S g1 g3 w g2
      · exact ld_blt (X := X.suite a ((a, o) :: (X.pn ++ pins))) S g1 g3 g4 w g5 g2
    refine nam (look.here ?_)
    cases k with
    | false => exact ih (no rfl)
    | true =>
      refine codeAny_handlers_suite_as (HandSPX.lands_againZ t.fl fun h f up => ?_)
      obtain ⟨o2, vs2, eo2, zo2, qo2, S2⟩ := t.suite fr f up
      refine store_ok (X := X.suite a ((a, o2) :: (X.pn ++ pins))) (v := .ref a) S2 nd hi (.inl hl) rfl (fun z S3 => ?_) (.inr hl)
      refine wpAny_mono ((sok a o2 C d (X.pn ++ pins) zo2 ⟨_, qo2⟩).run [] z _ H _ S3 (yes rfl a t.na)) (fun fl z2 sp => ?_) fun _ _ v => v.elim
      have fin : ∀ {τ : L2.St} {G : Hp} {Q : Shared → Prop}, Inv (X.suite a ((a, o2) :: (X.pn ++ pins))) [] τ G z2 → (∀ z3, Inv X pins (τ.set i none) G z3 → Q z3) →
          wpAny (model X.prog X.w) X.A (do bindName X.env n .none; unbindBehindTheSuite X.env n q) (fun _ z3 => Q z3) X.xe z2 := fun {τ G Q} J hq => gone_ok (J.unsuite ok) nd hi hl hq
      cases fl with
      | ret u => obtain ⟨v, τ, G, J, rv, qv⟩ := sp; exact fin J fun z3 J3 => ⟨v, _, G, J3, rv, qv⟩
      | next => obtain ⟨τ, G, J, qv⟩ := sp; exact fin J fun z3 J3 => ⟨_, G, J3, qv⟩
      | brk => obtain ⟨τ, G, J, qv⟩ := sp; exact fin J fun z3 J3 => ⟨_, G, J3, qv⟩
      | cont => obtain ⟨τ, G, J, qv⟩ := sp; exact fin J fun z3 J3 => ⟨_, G, J3, qv⟩
theorem ps_tryAs {body : List Stmt} {h0 : ExceptHandler} {hs : List ExceptHandler} {l : List (Value × CTS)} {pos : Pos} {tb : WX → TS} (st : X.stack = X.env :: X.outer) (fr : X.env.frame = some X.env.locals) (nd : X.N.Nodup) (hi : X.N[i]? = some n) (hl : X.env.kindOf n = some .local) (tk : Takes X out)
    (hb : ∀ (W : WX) (pn : List (Addr × Obj)) (xe : Value → Shared → Prop), Takes (X.tr pn xe) W → PassesOwn (model X.prog X.w) X.A X.env xe → PSs (X.tr pn xe) body (tb W)) (cl : Clauses X n (h0 :: hs) l) :
    PS X (.Try body (h0 :: hs) [] [] pos) (fun D σ H => tb (wAll X.K i out D l) D σ H) := ⟨fun pins s σ H D I h => by
  have ok := I.ok
  have run := hb (wAll X.K i out D l) (X.pn ++ pins) (fun e s1 => wpAny (model X.prog X.w) X.A (noteFrame e X.env) (fun _ s2 => wpAny (model X.prog X.w) X.A (setFlight e none) (fun _ s3 => wpAny (model X.prog X.w) X.A (handleBy e X.env (h0 :: hs)) (SP X pins D) X.xe s3) X.xe s2) X.xe s1)
  refine wpAny_Try_except (wpAny_mono ((run (fun u z xx => ?_) PassesOwn.looking).run [] s σ H D (I.toTry _) h) (fun f z sp => ?_) fun e z q => q)
  · obtain ⟨a, B, zI, pins2, τ, G, C, d, rfl, J, nb, up, sky, na, os, ag, w⟩ := xx
    have J2 : Inv X pins τ G zI := J.ofTry ok
    have sky2 : Sky B (X.env :: X.outer) a (Zc C d) X.env.locals z.heap := by rw [← st]; exact sky
    refine Sky.land Zc.steady (by rw [ok.frames, st]) fr sky2 fun h f up2 => ?_
    refine Caught.all (s := { z with heap := h }) (C := C) (d := d) (B := B) (σ := τ) (H := G) ⟨f, na, fun h2 f2 u2 => J2.landed nb f2.1 ((up.trans up2).trans u2) os ag, fun h2 W hh u2 w2 => ?_⟩ ok fr nd hi hl tk cl w
    exact ⟨a, B, zI, pins, τ, G, C, d, rfl, J2, nb, (up.trans up2).trans u2, .inr (.inr (by rw [st]; exact hh)), na, os, ag, w2⟩
  · cases f with
    | ret u => obtain ⟨v, τ, G, J, rv, q⟩ := sp; exact ⟨v, τ, G, J.ofTry ok, rv, q⟩
    | next => obtain ⟨τ, G, J, q⟩ := sp; exact wpAny_execs_nil ⟨τ, G, J.ofTry ok, q⟩
    | brk => obtain ⟨τ, G, J, q⟩ := sp; exact ⟨τ, G, J.ofTry ok, q⟩
    | cont => obtain ⟨τ, G, J, q⟩ := sp; exact ⟨τ, G, J.ofTry ok, q⟩⟩
end
end Ev

set_option Elab.async false
set_option linter.all false
set_option maxRecDepth 100000
/-! Ev16: raise, try -/
namespace Ev
open PySem L2
/-- what is known of an error's class -/
structure ErrC (K : PySem.W.Frag) (C : Addr) : Prop where
  xf : XfC K C
  ox : OexC K C
  no : PySem.W.findIn K (.ref C) "what" = some none
/-- return (tag, error.what) -/
def tSuite (K : PySem.W.Frag) (i : Nat) (x : Str) : CTS := fun a C d D σ H => ∃ A dd w, C = .ref A ∧ ErrC K A ∧ d = some dd ∧ (i < σ.length → σ[i]? = some (some (.ref a))) ∧ H dd = some (.xd [("what", w)]) ∧ ∀ p, H p = none → D.rt (.ref p) (upd H p (.tup [.str x, w]))
section
variable {g : Gs} {X : Cx} {W : WX} {ρ ρ1 : List Addr} {σ : L2.St} {H H1 : Hp} {env : Env} {st : St} {pos : Pos} {i : Nat} {n : Str}
theorem suite_ok {x : Str} {j k : Nat} {p1 p2 p3 p4 : Pos} (hi : X.N[i]? = some n) (hv : Vis X.env.scope n) (hd : (n == ("__debug__" : Str)) = false) (hcd : (n == ("__classdict__" : Str)) = false) :
    SuiteOk X [.Return (some (.Tuple [.Constant (.str x) j p1, .Attribute (.Name n p2) "what" p3] k p4)) pos] (tSuite X.K i x) := fun a o C d pn z q => ⟨fun pins s σ H D J h => by
  obtain ⟨A, dd, w, rfl, c, rfl, h1, h2, h3⟩ := h
  have rd := pss_one (ps_ret (pos := pos) (pe_tup (X := X.suite a ((a, o) :: pn)) (x1 := k) (pos := p4) (pa_cons (pe_str (x := x) (j := j) (pos := p1)) (pa_cons (pe_xf (pos := p3) c.xf c.no z q (pe_var (X := X.suite a ((a, o) :: pn)) (pos := p2) hi hv hd hcd)) pa_nil))))
  refine rd.run pins s σ H D J ?_
  have li : i < σ.length := by rw [J.len]; exact (List.getElem?_eq_some_iff.mp hi).1
  exact ⟨.ref a, h1 li, rfl, rfl, dd, _, w, rfl, h2, rfl, by show 2 ≤ sizeLine; decide, h3⟩⟩
theorem Cfg.tr {pn : List (Addr × Obj)} {xe : Value → Shared → Prop} (c : Cfg g X ρ σ H env st) : Cfg g (X.tr pn xe) ρ σ H env st := ⟨⟨c.env.len, c.env.at_, c.env.nl⟩, c.sr⟩
theorem Cfg.untr {pn : List (Addr × Obj)} {xe : Value → Shared → Prop} (c : Cfg g (X.tr pn xe) ρ σ H env st) : Cfg g X ρ σ H env st := ⟨⟨c.env.len, c.env.at_, c.env.nl⟩, c.sr⟩
theorem tS_tr {pn : List (Addr × Obj)} {xe : Value → Shared → Prop} {f : Env → St → O} {D : Ends} (h : tS g X W f D σ H) : tS g (X.tr pn xe) W f D σ H := by
  obtain ⟨ρ, env, st, cf, h⟩ := h
  refine ⟨ρ, env, st, cf.tr, ?_⟩
  cases e : f env st with
  | nx env' s' => rw [e] at h; exact fun ρ' σ' H' ex c => h ρ' σ' H' ex c.untr
  | br env' s' => rw [e] at h; exact fun ρ' σ' H' ex c => h ρ' σ' H' ex c.untr
  | ct env' s' => rw [e] at h; exact fun ρ' σ' H' ex c => h ρ' σ' H' ex c.untr
  | rt x s' => rw [e] at h; exact h
  | rs c w env' s' => rw [e] at h; exact h
  | bad => rw [e] at h; exact h
/-- the clauses, as the evaluator has them -/
inductive ClsL (g : Gs) (X : Cx) (i : Nat) : List (Value × CTS) → List (Nat × Str) → Prop
  | nil : ClsL g X i [] []
  | cons {c : Nat} {C : Addr} {x : Str} {l : List (Value × CTS)} {hs : List (Nat × Str)} (e : ∀ c' C', IsC X.mg g.inf c' C' → PySem.W.exmOne X.K (.ref C') (.ref C) = some (decide (c = c'))) (r : ClsL g X i l hs) :
      ClsL g X i ((.ref C, tSuite X.K i x) :: l) ((c, x) :: hs)
theorem s_tri {body : List Stmt} {h0 : ExceptHandler} {hs : List ExceptHandler} {l : List (Value × CTS)} {hn : List (Nat × Str)} {b : S} (sk : X.stack = X.env :: X.outer) (fr : X.env.frame = some X.env.locals) (nd : X.N.Nodup) (hi : X.N[i]? = some n) (hl : X.env.kindOf n = some .local) (tk : Takes X W)
    (ec : ∀ c C, IsC X.mg g.inf c C → ErrC X.K C)
    (hb : ∀ (W : WX) (pn : List (Addr × Obj)) (xe : Value → Shared → Prop), Takes (X.tr pn xe) W → PassesOwn (model X.prog X.w) X.A X.env xe → PSs (X.tr pn xe) body (tS g (X.tr pn xe) W (exS g.cl b))) (cl : Clauses X n (h0 :: hs) l) (cn : ClsL g X i l hn) :
    PS X (.Try body (h0 :: hs) [] [] pos) (tS g X W (exS g.cl (.tri b hn))) :=
  psI (ps_tryAs (tb := fun W' => tS g X W' (exS g.cl b)) sk fr nd hi hl tk (fun W' pn xe t o => pssI (hb W' pn xe t o) fun _ _ _ z => tS_tr z) cl) fun D σ H h => by
    obtain ⟨ρ, env, st, cf, h⟩ := h
    simp only [exS] at h
    refine ⟨ρ, env, st, cf, ?_⟩
    cases e : exS g.cl b env st with
    | nx env' s' => rw [e] at h; exact h
    | br env' s' => rw [e] at h; exact h
    | ct env' s' => rw [e] at h; exact h
    | rt x s' => rw [e] at h; exact h
    | bad => rw [e] at h; exact h
    | rs c w env' s' =>
      rw [e] at h
      simp only at h
      intro ρ' σ' H' dx wv C ex sr rw' nw hx ic
      clear e cl
      have E' := ec _ _ ic
      induction cn with
      | nil =>
        exact h ρ' σ' H' dx wv C ex sr rw' nw hx ic
      | @cons c1 C1 x l hs e r ih =>
        refine ⟨decide (c1 = c), e c C ic, fun k a na => ?_, fun k => ih ?_⟩
        · have k' : c1 = c := of_decide_eq_true k
          subst k'
          simp only [lookC, if_true] at h
          refine ⟨C, dx, wv, rfl, E', rfl, fun l => List.getElem?_set_self (by simpa using l), hx, fun p hp => ?_⟩
          have fin : Fin X.K g.T ρ' H' s'.objs (.v (.tup [.str x, w])) D.rt := fun ρ2 H2 v e2 t2 rx => h ρ2 H2 v (ex.trans e2) t2 (rx.back ex)
          exact fin.tup sr (Reps.cons (by simp only [Rep]) (Reps.cons rw' Reps.nil)) hp
        · have k' : ¬ c1 = c := of_decide_eq_false k
          simpa only [lookC, if_neg k'] using h
/-- what the class's own __init__ does -/
def initSp (K : PySem.W.Frag) : Sp := fun vs H Q _ => ∃ a w C, vs = [.ref a, w] ∧ OexC K C ∧ PySem.W.findIn K (.ref C) "what" = some none ∧ H a = some (exo a C none) ∧ ∀ dx, H dx = none → dx ≠ a → Q .non (upd (upd H dx (exd dx [("what", w)])) a (exo a C (some dx)))
theorem upd_back {a dx : Addr} {o1 o2 o3 o4 : HO} (na : H a = none) (ne : dx ≠ a) : upd (del (upd (upd (upd H a o1) dx o2) a o3) a) dx o4 = upd H dx o4 := funext fun b => by
  unfold upd del
  by_cases e1 : b = dx
  · rw [if_pos e1, if_pos e1]
  · rw [if_neg e1, if_neg e1]
    by_cases e2 : b = a
    · rw [if_pos e2, e2, na]
    · rw [if_neg e2]
      exact (if_neg e2).trans ((if_neg e1).trans (if_neg e2))
theorem s_rais {c k : Nat} {x : Str} {C fI : Addr} {fd : FuncData} {ps : List Str} {CX : CXT} {e : Expr} {te : T} {p p1 p2 : Pos} (hc : X.calm = true) (tk : Takes X W) (hx : g.inf.cls[c]? = some x) (hm : X.mg x = some (.ref C)) (ec : ErrC X.K C)
    (iC : PySem.W.findIn X.K (.ref C) "__init__" = some (some (.ref fI))) (tI : PySem.W.typeIn X.K (.ref fI) = some (.type "function")) (F1 : FnOk X.prog X.w X.K X.mg X.base CX k fI fd ps (initSp X.K)) (hr : Room (k + 1) X.A) (hb : Binds X.K fd ps [])
    (hp : Passes CX X (fun _ _ _ => False)) (hg : Gl X x) (ha : PA X [e] (tL g X W (evs g.cl (.cons te .nil)))) (hdb : (x == ("__debug__" : Str)) = false) (hs : noStar e = true) :
    PS X (.Raise (some (.Call (.Name x p) [e] [] p1)) none p2) (tS g X W (exS g.cl (.rais c te))) :=
  psI (ps_raise hc tk (pmk_oex ec.ox iC tI F1 hr hb .nil hp hg hm ha hdb (star_cons hs) (by rfl))) fun D σ H h => by
    obtain ⟨ρ, env, st, cf, h⟩ := h
    simp only [exS] at h
    refine ⟨ρ, env, st, cf, ?_⟩
    rw [evs_one]
    cases e1 : ev g.cl te env st with
    | bad => rw [e1] at h; exact h
    | rs c' w st1 => rw [e1] at h; exact fun ρ' H' dx wv C' e' s r n o i => h ρ' σ H' dx wv C' e' s r n o i
    | ok v st1 =>
      rw [e1] at h
      intro ρ1 H1 x1 t1 vs sr rv
      obtain ⟨w, rfl, r⟩ := reps1 (ds := []) rv
      refine ⟨by show 1 ≤ 1000; decide, fun a na => ⟨a, w, C, rfl, ec.ox, ec.no, by unfold upd; rw [if_pos rfl], fun dx nd ne => ⟨rfl, dx, [("what", w)], by unfold upd; rw [if_pos rfl], by rw [upd_ne ne]; unfold upd; rw [if_pos rfl], by rw [upd_ne ne] at nd; exact nd, ?_⟩⟩⟩
      rw [upd_back na ne]
      have nd1 : H1 dx = none := by rw [upd_ne ne] at nd; exact nd
      have x2 : Ext X.K ρ1 H1 ρ1 (upd H1 dx (.xd [("what", w)])) := Ext.upd nd1
      refine h ρ1 σ _ dx w C (x1.trans x2) ⟨sr.st.upd nd1, sr.tab.ext fun b o z => by rw [upd_ne fun y => by rw [y, nd1] at z; cases z]; exact z⟩ (r.mono x2 (fun _ m => m) x2.av) (x1.back (Nw.of nd1)) (by unfold upd; rw [if_pos rfl]) ⟨x, hx, hm⟩
end
end Ev

set_option Elab.async false
set_option linter.all false
set_option maxRecDepth 100000
/-! Ev17: tests; the checker of expressions -/
namespace Ev
open PySem L2
section
variable {g : Gs} {X : Cx} {W : WX} {σ : L2.St} {H : Hp} {Q : VK} {a b c : Expr} {ta tb tc t : T} {pos : Pos}
theorem rd_cmp {o : Cop} (h : tE g X W (ev g.cl (.cmp o ta tb)) σ H Q) : tOp (r2b X.K g.T fun objs x y => cmp objs o x y) (tE g X W (ev g.cl ta)) (tE g X W (ev g.cl tb)) σ H Q := by
  obtain ⟨ρ, env, st, cf, h⟩ := h
  simp only [ev] at h
  refine tE_mono (tE_then cf h) fun u H1 ⟨ρ1, x, st1, _, _, _, c1, r1, h1⟩ => ?_
  refine tE_mono (tE_then c1 h1) fun v H2 ⟨ρ2, y, st2, e2, _, _, c2, r2, h2⟩ => ?_
  obtain ⟨z, hz, fin⟩ := post_ofO h2
  exact ⟨ρ2, st2.objs, x.d, y.d, z, c2.sr, r1.mono e2 (fun _ m => m) e2.av, r2, hz, fin⟩
theorem ofO_map_bl {s st' : St} {o : Option Bool} {x : Ev.X} (h : ofO s (o.map fun b => Ev.X.v (D.bl b)) = .ok x st') : ∃ k, x = .v (.bl k) := by
  cases o with
  | none => cases h
  | some k => cases h; exact ⟨k, rfl⟩
theorem bind_ok {α β : Type} {r : R α} {f : α → St → R β} {y : β} {s : St} (h : r.bind f = .ok y s) : ∃ x s1, r = .ok x s1 ∧ f x s1 = .ok y s := by
  cases r with
  | ok x s1 => exact ⟨x, s1, rfl, h⟩
  | rs c w s1 => cases h
  | bad => cases h
theorem ev_cmp_bl {cl : Call} {o : Cop} {env : Env} {st st' : St} {x : Ev.X} (h : ev cl (.cmp o ta tb) env st = .ok x st') : ∃ k, x = .v (.bl k) := by
  simp only [ev] at h
  obtain ⟨_, _, _, h⟩ := bind_ok h
  obtain ⟨_, _, _, h⟩ := bind_ok h
  exact ofO_map_bl h
theorem t_cmp {o : Cop} (hu : X.A.units + 65 < cLine) (ha : PE X a (tE g X W (ev g.cl ta))) (hb : PE X b (tE g X W (ev g.cl tb))) (hm : behindInMarks (copOf o) b = false) : PT X (.Compare a [copOf o] [b] pos) (tT g X W (.cmp o ta tb)) :=
  t_bool (f := fun _ _ => .bad) (fun _ _ _ _ h => ev_cmp_bl h) (ptImp (pt_cmpR (op_cmp (T := g.T) hu o) ha hb hm) fun σ H Q h => rd_cmp h)
theorem rd_chn {o p : Cop} (h : tE g X W (ev g.cl (.chn o p ta tb tc)) σ H Q) : tChain (r2b X.K g.T fun objs x y => cmp objs o x y) (r2b X.K g.T fun objs x y => cmp objs p x y) (tE g X W (ev g.cl ta)) (tE g X W (ev g.cl tb)) (tE g X W (ev g.cl tc)) σ H Q := by
  obtain ⟨ρ, env, st, cf, h⟩ := h
  simp only [ev] at h
  refine tE_mono (tE_then cf h) fun u H1 ⟨ρ1, x, st1, _, _, _, c1, r1, h1⟩ => ?_
  refine tE_mono (tE_then c1 h1) fun v H2 ⟨ρ2, y, st2, e2, _, _, c2, r2, h2⟩ => ?_
  have r1' := r1.mono e2 (fun _ m => m) e2.av
  cases hk : cmp st2.objs o x.d y.d with
  | none => rw [hk] at h2; exact h2.elim
  | some k =>
    refine ⟨ρ2, st2.objs, x.d, y.d, .v (.bl k), c2.sr, r1', r2, congrArg (Option.map fun b => Ev.X.v (D.bl b)) hk, fun ρ' H' w ex tb rw' => ?_⟩
    obtain ⟨s', r'⟩ := rw'
    simp only [Rep] at r'
    subst r'
    refine ⟨k, rfl, ?_⟩
    have c3 : Cfg g X ρ' σ H' env st2 := c2.ext ex ⟨s', tb⟩
    rw [hk] at h2
    cases k with
    | true =>
      rw [if_pos rfl]
      refine tE_mono (tE_then c3 (PostX.step ex h2)) fun w H4 ⟨ρ4, z, st4, e4, _, _, c4, r4, h4⟩ => ?_
      obtain ⟨z', hz, fin⟩ := post_ofO h4
      exact ⟨ρ4, st4.objs, y.d, z.d, z', c4.sr, r2.mono (ex.trans e4) (fun _ m => m) (ex.trans e4).av, r4, hz, fin⟩
    | false =>
      rw [if_neg (by decide)]
      exact (PostX.fin (PostX.step ex h2) rfl).bl c3.sr
theorem ev_chn_bl {cl : Call} {o p : Cop} {env : Env} {st st' : St} {x : Ev.X} (h : ev cl (.chn o p ta tb tc) env st = .ok x st') : ∃ k, x = .v (.bl k) := by
  simp only [ev] at h
  obtain ⟨_, _, _, h⟩ := bind_ok h
  obtain ⟨_, _, _, h⟩ := bind_ok h
  split at h
  · obtain ⟨_, _, _, h⟩ := bind_ok h
    exact ofO_map_bl h
  · cases h; exact ⟨false, rfl⟩
  · cases h
theorem t_chn {o p : Cop} (hu : X.A.units + 65 < cLine) (ha : PE X a (tE g X W (ev g.cl ta))) (hb : PE X b (tE g X W (ev g.cl tb))) (hc : PE X c (tE g X W (ev g.cl tc))) (hm : lastMarks [copOf o, copOf p] [b, c] = false) :
    PT X (.Compare a [copOf o, copOf p] [b, c] pos) (tT g X W (.chn o p ta tb tc)) :=
  t_bool (f := fun _ _ => .bad) (fun _ _ _ _ h => ev_chn_bl h) (ptImp (pt_chain (op_cmp (T := g.T) hu o) (op_cmp (T := g.T) hu p) ha hb hc hm) fun σ H Q h => rd_chn h)
theorem pe_one {op : BoolOp} {t : TE} (h : PE X a t) : PE X (.BoolOp op [a] pos) t := ⟨fun pn z σ H Q J q => PyProof.Rows.BoolOp_one (h.run pn z σ H Q J q)⟩
theorem t_or1 (ha : PT X a (tT g X W ta)) : PW X (.BoolOp .Or [a] pos) (tT g X W ta) := pw_or1 ha
end
/-! ### what the checker knows -/
structure Ck where
  N : List Str
  sc : Scope
  qual : Str
  inf : Inf
  /-- the names that a cell of the frame itself holds -/
  fn : Str → Bool
  /-- lambdas are made here -/
  lm : Bool
def Ck.gl (c : Ck) (x : Str) : Bool := decide (c.sc.names.lookup x = some .globalImplicit)
def Ck.vis (c : Ck) (x : Str) : Bool := match c.sc.names.lookup x with
  | some .local => true
  | some .cell => true
  | some .free => true
  | _ => false
def okName (x : Str) : Bool := !(x == ("__debug__" : Str)) && !(x == ("__classdict__" : Str)) && !(x == ("__name__" : Str))
def Ck.nm (c : Ck) (i : Nat) (x : Str) : Bool := decide (c.N[i]? = some x) && c.vis x && okName x
/-- a builtin of the module's surroundings -/
def Ck.blt (c : Ck) (x : Str) : Bool := c.gl x && c.inf.free.contains x && okName x
/-- a context's facts -/
structure XOk (n : Nat) (c : Ck) (g : Gs) (X : Cx) (W : WX) : Prop where
  N : X.N = c.N
  nd : X.N.Nodup
  kind : X.env.scope.kind = .function
  sc : X.env.scope = c.sc
  fn : ∀ x, X.fn x = c.fn x
  inf : g.inf = c.inf
  calm : X.calm = true
  room : Room n X.A
  gd : X.A.guards = some []
  hu : X.A.units + 100 < cLine
  tk : Takes X W
  ok : ClOk g X.prog X.w X.K X.mg X.base n
  mo : g.cl.Mono
  ff : ∀ (f : Nat) (fi : FnI), g.inf.fns[f]? = some fi → FnFact X.K X.mg fi
  fre : ∀ x ∈ g.inf.free, X.mg x = none
  num : ∀ x k, (x, k) ∈ g.inf.nums → ∃ t, X.mg x = some (.int k t)
  gcd : g.inf.gcd = true → X.mg "gcd" = some (.builtin "math.gcd")
  tab : c.lm = true → tabOf X g.T
  qual : X.env.qual = c.qual
section
variable {n : Nat} {c : Ck} {g : Gs} {X : Cx} {W : WX}
theorem XOk.gl (k : XOk n c g X W) {x : Str} (h : c.gl x = true) : Gl X x := by
  show X.env.scope.names.lookup x = _
  rw [k.sc]
  exact of_decide_eq_true h
theorem XOk.vis (k : XOk n c g X W) {x : Str} (h : c.vis x = true) : Vis X.env.scope x := by
  unfold Vis
  rw [k.sc]
  unfold Ck.vis at h
  split at h
  · rename_i e; exact .inl e
  · rename_i e; exact .inr (.inl e)
  · rename_i e; exact .inr (.inr e)
  · cases h
theorem okName.of {x : Str} (h : okName x = true) : (x == ("__debug__" : Str)) = false ∧ (x == ("__classdict__" : Str)) = false ∧ x ≠ "__name__" := by
  unfold okName at h
  simp only [Bool.and_eq_true, Bool.not_eq_true'] at h
  exact ⟨h.1.1, h.1.2, fun e => by rw [e] at h; simp at h⟩
theorem XOk.nm (k : XOk n c g X W) {i : Nat} {x : Str} (h : c.nm i x = true) : X.N[i]? = some x ∧ Vis X.env.scope x ∧ (x == ("__debug__" : Str)) = false ∧ (x == ("__classdict__" : Str)) = false := by
  unfold Ck.nm at h
  simp only [Bool.and_eq_true, decide_eq_true_eq] at h
  exact ⟨by rw [k.N]; exact h.1.1, k.vis h.1.2, (okName.of h.2).1, (okName.of h.2).2.1⟩
theorem XOk.blt (k : XOk n c g X W) {x : Str} (h : c.blt x = true) : Gl X x ∧ X.mg x = none ∧ x ≠ "__name__" ∧ (x == ("__debug__" : Str)) = false := by
  unfold Ck.blt at h
  simp only [Bool.and_eq_true] at h
  refine ⟨k.gl h.1.1, k.fre x ?_, (okName.of h.2).2.2, (okName.of h.2).1⟩
  rw [k.inf]
  exact List.contains_iff_mem.mp h.1.2
end
end Ev

set_option Elab.async false
set_option linter.all false
set_option maxRecDepth 100000
/-! Ev18: the checker -/
namespace Ev
open PySem L2
/-- a constant -/
def chkC (c : Ck) : D → Expr → Bool
  | .int i, e => match e with
    | .Constant (.int j) _ _ => decide (i = j)
    | .Name x _ => c.gl x && okName x && c.inf.nums.any fun p => p.1 == x && decide (p.2 = i)
    | _ => false
  | .str s, e => match e with
    | .Constant (.str z) _ _ => decide (s = z)
    | _ => false
  | .bl b, e => match e with
    | .Constant (.bool k) _ _ => decide (b = k)
    | _ => false
  | .non, e => match e with
    | .Constant .none _ _ => true
    | _ => false
  | _, _ => false
def plainIx : Expr → Bool
  | .Slice _ _ none _ => false
  | _ => true
/-- a builtin that is called by its name -/
def bcF : Bi → Option (Str × Value)
  | .len => some ("len", .builtin "len")
  | .repr => some ("repr", .builtin "repr")
  | .abs => some ("abs", .builtin "abs")
  | .max1 | .max2 => some ("max", .builtin "max")
  | .min1 | .min2 => some ("min", .builtin "min")
  | .sum => some ("sum", .builtin "sum")
  | .all => some ("all", .builtin "all")
  | .any => some ("any", .builtin "any")
  | .int => some ("int", .type "int")
  | .list => some ("list", .type "list")
  | .tuple => some ("tuple", .type "tuple")
  | _ => none
def mtF : Mt → Str
  | .append => "append" | .extend => "extend" | .pop => "pop" | .popi => "pop"
/-- the base of a method's name is no call -/
def plainB : Expr → Bool
  | .Call _ _ _ _ => false
  | _ => true
/-- a lambda that a text makes -/
structure LamX where
  l : Nat
  args : Arguments
  body : Expr
  scope : Scope
mutual
/-- targets -/
def chkG (c : Ck) : G → Expr → Bool
  | .nm i, e => match e with
    | .Name x _ => decide (c.N[i]? = some x) && (decide (c.sc.names.lookup x = some .local) || (decide (c.sc.names.lookup x = some .cell) && c.fn x))
    | _ => false
  | .tup g r, e => match e with
    | .Tuple (x :: xs) _ _ => noStar x && xs.all noStar && chkG c g x && chkGs c r xs
    | _ => false
  | .nil, _ => false
def chkGs (c : Ck) : G → List Expr → Bool
  | .nil, es => es.isEmpty
  | .tup g r, es => match es with
    | x :: xs => noStar x && chkG c g x && chkGs c r xs
    | [] => false
  | .nm _, _ => false
end
def blkB (c : Ck) (scope : Scope) (own : List Nat) : Bool :=
  decide (scope.kind = .function) && scope.names.all (fun y => decide (scope.names.lookup y.1 = some y.2)) && own.all (fun i => (c.N[i]?).isSome) &&
  scope.names.all (fun y => !decide (y.2 = .free) || decide (c.sc.names.lookup y.1 = some .cell) || decide (c.sc.names.lookup y.1 = some .free)) &&
  scope.names.all (fun y => !(decide (y.2 = .local) || decide (y.2 = .cell)) || own.any (fun i => decide (c.N[i]? = some y.1)) || !c.N.contains y.1)
/-- no display of a set -/
def noSet : Expr → Bool
  | .Set _ _ _ => false
  | _ => true
/-- inside a comprehension -/
def Ck.blk (c : Ck) (scope : Scope) : Ck := { c with sc := relS scope c.sc, fn := fun x => scope.names.lookup x == some .cell }
mutual
/-- t is e, as a value (k = false) or as a test -/
def chk (c : Ck) (k : Bool) : T → Expr → Bool
  | .loc i, e => match e with
    | .Name x _ => c.nm i x
    | _ => false
  | .cst d, e => chkC c d e
  | .bin o a b, e => match e with
    | .BinOp x op y _ => decide (op = opOf o) && (chk c false a x && chk c false b y)
    | _ => false
  | .neg a, e => match e with
    | .UnaryOp .USub x _ => chk c false a x
    | _ => false
  | .not a, e => match e with
    | .UnaryOp .Not x _ => chk c k a x
    | _ => false
  | .cmp o a b, e => match e with
    | .Compare x [op] [y] _ => decide (op = copOf o) && (chk c false a x && chk c false b y) && !behindInMarks op y
    | _ => false
  | .chn o p a b d, e => match e with
    | .Compare x [op, oq] [y, z] _ => decide (op = copOf o) && decide (oq = copOf p) && (chk c false a x && chk c false b y && chk c false d z) && !lastMarks [op, oq] [y, z]
    | _ => false
  | .and a b, e => match e with
    | .BoolOp .And (x :: y :: r) p => chk c k a x && (match r with
      | [] => chk c k b y
      | z :: r => chk c k b (.BoolOp .And (y :: z :: r) p))
    | _ => false
  | .or a b, e => match e with
    | .BoolOp .Or (x :: y :: r) p => chk c k a x && (match r with
      | [] => chk c k b y
      | z :: r => chk c k b (.BoolOp .Or (y :: z :: r) p))
    | _ => false
  | .ite t a b, e => match e with
    | .IfExp x y z _ => chk c true t x && chk c k a y && chk c k b z
    | _ => false
  | .tup es, e => match e with
    | .Tuple xs _ _ => chkL c es xs && decide (es.len ≤ sizeLine)
    | _ => false
  | .lst es, e => match e with
    | .List xs _ => chkL c es xs && decide (es.len ≤ sizeLine)
    | _ => false
  | .box a, e => !k && chk c false a e
  | .idx a i, e => match e with
    | .Subscript x y _ => chk c false a x && chk c false i y && plainIx y
    | _ => false
  | .sl a lo hi, e => match e with
    | .Subscript x (.Slice l h none _) _ => chk c false a x && (match l with
      | none => (match lo with
        | .no => true
        | _ => false)
      | some l => chk c false lo l) && (match h with
      | none => (match hi with
        | .no => true
        | _ => false)
      | some h => chk c false hi h)
    | _ => false
  | .no, _ => false
  | .rev _, _ => false
  | .call f es, e => match e with
    | .Call (.Name x _) xs [] _ => c.gl x && okName x && (match c.inf.fns[f]? with
      | some fi => fi.name == x
      | none => false) && chkA c es xs
    | _ => false
  | .callv i es, e => match e with
    | .Call (.Name x _) [] [] _ => c.nm i x && (match es with
      | .nil => true
      | _ => false)
    | _ => false
  | .fn _, _ => false
  | .lam _ _, _ => false
  | .bc b es, e => match e with
    | .Call (.Name x _) xs [] _ => match isK b with
      | some t => (match xs with
        | [a, .Name tn _] => x == "isinstance" && c.blt x && c.blt tn && decide (bootBuiltins tn = some (.type t)) && noStar a && (match es with
          | .cons ta .nil => chk c false ta a
          | _ => false)
        | _ => false)
      | none => (match b with
        | .gcd => c.inf.gcd && x == "gcd" && c.gl x
        | _ => (match bcF b with
          | some (z, _) => x == z && c.blt x
          | none => false)) && !xs.isEmpty && chkL c es xs
    | _ => false
  | .mt m o es, e => match e with
    | .Call (.Attribute x nm ap) xs [] p => nm == mtF m && plainB x && (ap.endLine == p.line) && chk c false o x && decide (xs.length < 30) && chkL c es xs
    | _ => false
  | .lrng _, _ => false
  | .trng _, _ => false
  | .lc own g q es cs el, e => match e with
    | .ListComp elt [⟨tg, iter, ifs, isA⟩] scope _ => noSet iter && decide (isA = 0) && blkB c scope own && g.vars.all (fun j => own.contains j) && chkG (c.blk scope) g tg && chk (c.blk scope) false el elt && (match cs, ifs with
      | .nil, [] => true
      | .cons t .nil, [x] => chk (c.blk scope) true t x
      | _, _ => false) && (match q with
      | .e => (match es with
        | .cons t .nil => chk c false t iter
        | _ => false)
      | .rng1 => (match iter with
        | .Call (.Name x _) [a] [] _ => x == "range" && c.blt x && chkL c es [a]
        | _ => false)
      | .rng2 => (match iter with
        | .Call (.Name x _) [a, b] [] _ => x == "range" && c.blt x && chkL c es [a, b]
        | _ => false)
      | .enm => (match tg, iter with
        | .Tuple _ _ _, .Call (.Name x _) [a] [] _ => x == "enumerate" && c.blt x && chkL c es [a]
        | _, _ => false)
      | _ => false)
    | _ => false
def chkL (c : Ck) : TL → List Expr → Bool
  | .nil, es => es.isEmpty
  | .cons t r, es => match es with
    | x :: xs => noStar x && chk c false t x && chkL c r xs
    | [] => false
/-- arguments of a def -/
def chkA (c : Ck) : TL → List Expr → Bool
  | .nil, es => es.isEmpty
  | .cons (.fn f) r, es => match es with
    | .Name x _ :: xs => c.gl x && okName x && (match c.inf.fns[f]? with
      | some fi => fi.name == x
      | none => false) && chkA c r xs
    | _ => false
  | .cons (.lam l cap) r, es => match es with
    | [.Lambda args body scope _] => c.lm && (match r with
      | .nil => true
      | _ => false) && (match c.inf.lams[l]? with
      | some li => li.qual == c.qual && decide (cap.map (fun j => c.N[j]?) = li.fr.map some) && li.fr.all (fun y => scope.names.contains (y, .free)) && scope.names.all (fun y => !decide (y.2 = .free) || decide (c.sc.names.lookup y.1 = some .cell) || decide (c.sc.names.lookup y.1 = some .free)) && args.defaults.isEmpty && args.kw_defaults.isEmpty
      | none => false)
    | _ => false
  | .cons t r, es => match es with
    | x :: xs => noStar x && chk c false t x && chkA c r xs
    | [] => false
end
end Ev

set_option Elab.async false
set_option linter.all false
set_option maxRecDepth 100000
/-! Ev19: inside a comprehension -/
namespace Ev
open PySem L2
theorem XOk.blk {n : Nat} {c : Ck} {g : Gs} {X : Cx} {W : WX} {scope : Scope} (k : XOk n c g X W) (hk : scope.kind = .function) (s : Shared) (H : Hp) (C : Addr) (cl : List (Str × Addr)) (fp : List Addr) : XOk n (c.blk scope) g (X.blk s H scope (compEnvC scope cl C X.env) fp) noW where
  N := k.N
  nd := k.nd
  kind := hk
  sc := by
    show relS scope X.env.scope = relS scope c.sc
    rw [k.sc]
  fn := fun _ => rfl
  inf := k.inf
  calm := k.calm
  room := k.room
  gd := k.gd
  hu := k.hu
  tk := fun u z x => by
    obtain ⟨_, _, _, _, _, _, _, _, _, _, _, _, _, _, _, _, w⟩ := x
    exact w.elim
  ok := k.ok
  mo := k.mo
  ff := k.ff
  fre := k.fre
  num := k.num
  gcd := k.gcd
  tab := k.tab
  qual := k.qual
theorem each_cons {e : Expr} {es : List Expr} {env : PySem.Env} (h : noStar e = true) : assignEach (e :: es) env = (false, assign e env) :: assignEach es env := by
  cases e <;> first | rfl | cases h
theorem each_len {env : PySem.Env} : ∀ {es : List Expr}, es.all noStar = true → (assignEach es env).length = es.length ∧ (assignEach es env).findIdx? (·.1) = none
  | [], _ => ⟨rfl, rfl⟩
  | e :: es, h => by
    simp only [List.all_cons, Bool.and_eq_true] at h
    obtain ⟨h1, h2⟩ := each_len (env := env) h.2
    rw [each_cons h.1]
    exact ⟨by simp [h1], by simp [List.findIdx?_cons, h2]⟩
mutual
theorem chkG_ok {n : Nat} {g : Gs} : ∀ (t : G) {c : Ck} {X : Cx} {W : WX} {e : Expr}, XOk n c g X W → chkG c t e = true → PG X e (tG g X t)
  | .nm i, c, X, W, e, ok, h => by
    cases e with
    | Name x p =>
      simp only [chkG, Bool.and_eq_true, Bool.or_eq_true, decide_eq_true_eq] at h
      obtain ⟨h1, h2⟩ := h
      rw [← ok.sc, ← ok.fn] at h2
      exact g_name ok.nd (by rw [ok.N]; exact h1) (h2.imp (fun z => z) fun z => z.1) (h2.elim .inr fun z => .inl z.2)
    | _ => simp only [chkG, Bool.false_eq_true] at h
  | .tup g1 r, c, X, W, e, ok, h => by
    simp only [chkG] at h
    split at h
    · rename_i x xs k p
      simp only [Bool.and_eq_true] at h
      obtain ⟨⟨⟨h1, h2⟩, h3⟩, h4⟩ := h
      obtain ⟨r1, r2⟩ := chkGs_ok r ok h4
      have al : (x :: xs).all noStar = true := by simp only [List.all_cons, h1, h2, Bool.and_self]
      obtain ⟨l1, l2⟩ := each_len (env := X.env) al
      exact g_tup ok.calm (gs_cons (chkG_ok g1 ok h3) r1 (by rw [each_cons h1]; rfl)) (by rw [l1]; simp only [List.length_cons, G.len, r2]) l2
    · cases h
  | .nil, c, X, W, e, ok, h => by simp only [chkG, Bool.false_eq_true] at h
theorem chkGs_ok {n : Nat} {g : Gs} : ∀ (t : G) {c : Ck} {X : Cx} {W : WX} {es : List Expr}, XOk n c g X W → chkGs c t es = true → PGs X es (tGs g X t) ∧ es.length = t.len
  | .nil, c, X, W, es, ok, h => by
    cases es with
    | nil => exact ⟨gs_nil, rfl⟩
    | cons x xs => simp only [chkGs, List.isEmpty, Bool.false_eq_true] at h
  | .tup g1 r, c, X, W, es, ok, h => by
    cases es with
    | nil => simp only [chkGs, Bool.false_eq_true] at h
    | cons x xs =>
      simp only [chkGs, Bool.and_eq_true] at h
      obtain ⟨⟨h1, h2⟩, h3⟩ := h
      obtain ⟨r1, r2⟩ := chkGs_ok r ok h3
      exact ⟨gs_cons (chkG_ok g1 ok h2) r1 (by rw [each_cons h1]; rfl), by simp only [List.length_cons, G.len, r2]⟩
  | .nm _, c, X, W, es, ok, h => by simp only [chkGs, Bool.false_eq_true] at h
end
end Ev

set_option Elab.async false
set_option linter.all false
set_option maxRecDepth 100000
/-! Ev20: the lambdas of a text -/
namespace Ev
open PySem L2
mutual
/-- the lambdas in t as e writes them -/
def coll : T → Expr → List LamX
  | .bin _ a b, e => match e with
    | .BinOp x _ y _ => coll a x ++ coll b y
    | _ => []
  | .neg a, e => match e with
    | .UnaryOp _ x _ => coll a x
    | _ => []
  | .not a, e => match e with
    | .UnaryOp _ x _ => coll a x
    | _ => []
  | .cmp _ a b, e => match e with
    | .Compare x _ [y] _ => coll a x ++ coll b y
    | _ => []
  | .chn _ _ a b d, e => match e with
    | .Compare x _ [y, z] _ => coll a x ++ (coll b y ++ coll d z)
    | _ => []
  | .and a b, e => match e with
    | .BoolOp o (x :: y :: r) p => coll a x ++ (match r with
      | [] => coll b y
      | z :: r => coll b (.BoolOp o (y :: z :: r) p))
    | _ => []
  | .or a b, e => match e with
    | .BoolOp o (x :: y :: r) p => coll a x ++ (match r with
      | [] => coll b y
      | z :: r => coll b (.BoolOp o (y :: z :: r) p))
    | _ => []
  | .ite t a b, e => match e with
    | .IfExp x y z _ => coll t x ++ (coll a y ++ coll b z)
    | _ => []
  | .tup es, e => match e with
    | .Tuple xs _ _ => collL es xs
    | _ => []
  | .lst es, e => match e with
    | .List xs _ => collL es xs
    | _ => []
  | .box a, e => coll a e
  | .idx a i, e => match e with
    | .Subscript x y _ => coll a x ++ coll i y
    | _ => []
  | .sl a lo hi, e => match e with
    | .Subscript x (.Slice l h _ _) _ => coll a x ++ ((match l with
      | none => []
      | some l => coll lo l) ++ (match h with
      | none => []
      | some h => coll hi h))
    | _ => []
  | .call _ es, e => match e with
    | .Call _ xs _ _ => collL es xs
    | _ => []
  | .bc _ es, e => match e with
    | .Call _ xs _ _ => collL es xs
    | _ => []
  | .mt _ o es, e => match e with
    | .Call (.Attribute x _ _) xs _ _ => coll o x ++ collL es xs
    | _ => []
  | .lc _ _ q es cs el, e => match e with
    | .ListComp elt [⟨_, iter, ifs, _⟩] _ _ => coll el elt ++ (collL cs ifs ++ (match q with
      | .e => collL es [iter]
      | _ => (match iter with
        | .Call _ xs _ _ => collL es xs
        | _ => [])))
    | _ => []
  | .lam l _, e => match e with
    | .Lambda args body scope _ => [⟨l, args, body, scope⟩]
    | _ => []
  | _, _ => []
def collL : TL → List Expr → List LamX
  | .nil, _ => []
  | .cons t r, es => match es with
    | x :: xs => coll t x ++ collL r xs
    | [] => []
end
/-- a lambda of the list, found again -/
def LamAt (g : Gs) (z : LamX) : Prop := ∃ li, g.inf.lams[z.l]? = some li ∧ li.args = z.args ∧ li.body = z.body ∧ li.scope = z.scope
section
variable {n : Nat} {c : Ck} {g : Gs} {X : Cx} {W : WX}
theorem chkC_ok {d : D} {e : Expr} (k : XOk n c g X W) (h : chkC c d e = true) : PE X e (tE g X W (ev g.cl (.cst d))) := by
  cases d with
  | int i =>
    cases e with
    | Constant v j p =>
      cases v with
      | int z =>
        simp only [chkC, decide_eq_true_eq] at h
        subst h
        exact s_const pe_int fun _ _ _ _ => by simp only [Rep]
      | _ => simp only [chkC, Bool.false_eq_true] at h
    | Name x p =>
      simp only [chkC, Bool.and_eq_true, List.any_eq_true, decide_eq_true_eq] at h
      obtain ⟨⟨h1, h2⟩, ⟨y, z⟩, h3, h4, h5⟩ := h
      have h4 : y = x := eq_of_beq h4
      have h5 : z = i := h5
      subst h4 h5
      obtain ⟨t, ht⟩ := k.num _ _ (by rw [k.inf]; exact h3)
      refine s_const (v := .int z) ⟨fun pn s σ H Q J q => ld_glob J (k.gl h1) ht ⟨.int z, H, J, ⟨_, rfl⟩, q⟩ (okName.of h2).1⟩ fun _ _ _ _ => by simp only [Rep]
    | _ => simp only [chkC, Bool.false_eq_true] at h
  | str x =>
    cases e with
    | Constant v j p =>
      cases v with
      | str z =>
        simp only [chkC, decide_eq_true_eq] at h
        subst h
        exact s_const pe_str fun _ _ _ _ => by simp only [Rep]
      | _ => simp only [chkC, Bool.false_eq_true] at h
    | _ => simp only [chkC, Bool.false_eq_true] at h
  | bl b =>
    cases e with
    | Constant v j p =>
      cases v with
      | bool z =>
        simp only [chkC, decide_eq_true_eq] at h
        subst h
        exact s_const pe_bl fun _ _ _ _ => by simp only [Rep]
      | _ => simp only [chkC, Bool.false_eq_true] at h
    | _ => simp only [chkC, Bool.false_eq_true] at h
  | non =>
    cases e with
    | Constant v j p =>
      cases v with
      | none => exact s_const pe_non fun _ _ _ _ => by simp only [Rep]
      | _ => simp only [chkC, Bool.false_eq_true] at h
    | _ => simp only [chkC, Bool.false_eq_true] at h
  | _ => simp only [chkC, Bool.false_eq_true] at h
def Good (k : Bool) (g : Gs) (X : Cx) (W : WX) (t : T) (e : Expr) : Prop := match k with
  | false => PE X e (tE g X W (ev g.cl t))
  | true => PT X e (tT g X W t)
theorem good_of {k : Bool} {t : T} {e : Expr} (h : PE X e (tE g X W (ev g.cl t))) (he : ∀ whole, isTrue e X.env whole = (do let v ← whole; standAt e.pos; holding [v] (truthy v))) : Good k g X W t e := by
  cases k with
  | false => exact h
  | true => exact t_of h he
theorem plainIx_ok {b : Expr} (h : plainIx b = true) : PlainIx b := fun o i => by
  cases b <;> try rfl
  rename_i l u st p
  cases st with
  | none => cases h
  | some s => rfl
theorem pw_of {op : BoolOp} {vs : List Expr} {p : Pos} {t : TT} (h : PT X (.BoolOp op vs p) t) : PW X (.BoolOp op vs p) t := ⟨fun wh pn s σ H Q J q => h.run pn s σ H Q J q⟩
theorem XOk.fnAt (k : XOk n c g X W) {f : Nat} {x : Str} (h : (match c.inf.fns[f]? with
      | some fi => fi.name == x
      | none => false) = true) : ∃ fi a, g.inf.fns[f]? = some fi ∧ fi.name = x ∧ X.mg fi.name = some (.ref a) ∧ PySem.W.keepIn X.K (.ref a) = true := by
  split at h
  · rename_i fi e
    have e' : g.inf.fns[f]? = some fi := by rw [k.inf]; exact e
    obtain ⟨a, _, _, _, _, _, _, _, _, _, _, _, h1, h2, _⟩ := k.ff f fi e'
    exact ⟨fi, a, e', eq_of_beq h, h1, h2⟩
  · cases h
theorem chkA_nil {t : T} {r : TL} (h : chkA c (.cons t r) [] = true) : False := by
  cases t <;> simp only [chkA, Bool.false_eq_true] at h
theorem hu65 (k : XOk n c g X W) : X.A.units + 65 < cLine := by have := k.hu; omega
end
/-- the lambdas of t are all there -/
abbrev Lams (g : Gs) (l : List LamX) : Prop := ∀ z ∈ l, LamAt g z
theorem Lams.l {g : Gs} {a b : List LamX} (h : Lams g (a ++ b)) : Lams g a := fun z m => h z (List.mem_append_left _ m)
theorem Lams.r {g : Gs} {a b : List LamX} (h : Lams g (a ++ b)) : Lams g b := fun z m => h z (List.mem_append_right _ m)
theorem chkA_gen {n : Nat} {g : Gs} {t : T} {r : TL} {c : Ck} {X : Cx} {W : WX} {es : List Expr} (hp : plainA t = true) (tt : ∀ x, Lams g (coll t x) → chk c false t x = true → PE X x (tE g X W (ev g.cl t)))
    (rr : ∀ xs, Lams g (collL r xs) → chkA c r xs = true → PAx g X W xs r ∧ xs.all noStar = true) (lm : Lams g (collL (.cons t r) es)) (h : chkA c (.cons t r) es = true) : PAx g X W es (.cons t r) ∧ es.all noStar = true := by
  cases es with
  | nil => exact (chkA_nil h).elim
  | cons x xs =>
    have e : chkA c (.cons t r) (x :: xs) = (noStar x && chk c false t x && chkA c r xs) := by
      cases t <;> first | rfl | cases hp
    rw [e] at h
    simp only [Bool.and_eq_true] at h
    simp only [collL] at lm
    obtain ⟨⟨h1, h2⟩, h3⟩ := h
    obtain ⟨r1, r2⟩ := rr xs lm.r h3
    exact ⟨x_cons hp (tt x lm.l h2) r1 h1, by simp only [List.all_cons, h1, r2, Bool.and_self]⟩
theorem chkA_step {n : Nat} {g : Gs} {t : T} {r : TL} {c : Ck} {X : Cx} {W : WX} {es : List Expr} (ok : XOk n c g X W) (tt : ∀ x, Lams g (coll t x) → chk c false t x = true → PE X x (tE g X W (ev g.cl t)))
    (rr : ∀ xs, Lams g (collL r xs) → chkA c r xs = true → PAx g X W xs r ∧ xs.all noStar = true) (lm : Lams g (collL (.cons t r) es)) (h : chkA c (.cons t r) es = true) : PAx g X W es (.cons t r) ∧ es.all noStar = true := by
  cases t with
  | fn f =>
    simp only [chkA] at h
    split at h
    · rename_i x p xs
      simp only [Bool.and_eq_true] at h
      obtain ⟨⟨⟨h1, h2⟩, h3⟩, h4⟩ := h
      simp only [collL] at lm
      obtain ⟨r1, r2⟩ := rr _ lm.r h4
      obtain ⟨fi, a, e1, e2, e3, e4⟩ := ok.fnAt h3
      subst e2
      exact ⟨x_fn e1 (ok.gl h1) e3 (okName.of h2).1 r1, by simp only [List.all_cons, r2, noStar, Bool.and_self]⟩
    · cases h
  | lam l cap =>
    simp only [chkA] at h
    split at h
    · rename_i args body scope p
      simp only [Bool.and_eq_true] at h
      obtain ⟨⟨h0, h1⟩, h2⟩ := h
      cases r with
      | cons _ _ => cases h1
      | nil =>
        split at h2
        · rename_i li e
          simp only [Bool.and_eq_true, decide_eq_true_eq] at h2
          obtain ⟨⟨⟨⟨⟨g1, g2⟩, g3⟩, g4⟩, g5⟩, g6⟩ := h2
          obtain ⟨li', e1, e2, e3, e4⟩ := lm ⟨l, args, body, scope⟩ (by simp only [collL, coll, List.append_nil, List.mem_singleton])
          have e' : g.inf.lams[l]? = some li := by rw [ok.inf]; exact e
          rw [e'] at e1
          cases e1
          refine ⟨x_lam e' (by rw [ok.qual]; exact eq_of_beq g1) e2 e3 e4 (ok.tab h0) ?_ (fun y hy e5 => ?_) (fun y hy => ?_) (by rw [ok.N]; exact g2), rfl⟩
          · obtain ⟨a1, a2, a3, a4, a5, a6, a7⟩ := args
            have z1 : a7 = [] := List.isEmpty_iff.mp g5
            have z2 : a5 = [] := List.isEmpty_iff.mp g6
            subst z1 z2
            rfl
          · have z := List.all_eq_true.mp g4 y hy
            rw [ok.sc]
            simpa [e5] using z
          · exact List.contains_iff_mem.mp (List.all_eq_true.mp g3 y hy)
        · cases h2
    · cases h
  | loc i =>
    cases es with
    | nil => exact (chkA_nil h).elim
    | cons x xs =>
      simp only [chkA, Bool.and_eq_true] at h
      simp only [collL] at lm
      obtain ⟨⟨h1, h2⟩, h3⟩ := h
      obtain ⟨r1, r2⟩ := rr _ lm.r h3
      cases x with
      | Name y p =>
        simp only [chk] at h2
        obtain ⟨q1, q2, q3, q4⟩ := ok.nm h2
        exact ⟨x_loc q1 q2 q3 q4 r1, by simp only [List.all_cons, r2, noStar, Bool.and_self]⟩
      | _ => simp only [chk, Bool.false_eq_true] at h2
  | _ => exact chkA_gen (n := n) rfl tt rr lm h
theorem bc_pe {n : Nat} {c : Ck} {g : Gs} {X : Cx} {W : WX} {b : Bi} {z : Str} {v : Value} {ts : TL} {e : Expr} {es : List Expr} {p pos : Pos} (ok : XOk n c g X W) (hz : bcF b = some (z, v)) (hb : c.blt z = true) (ha : PA X (e :: es) (tL g X W (evs g.cl ts))) (hs : noStar e = true) (hs2 : es.all noStar = true) :
    PE X (.Call (.Name z p) (e :: es) [] pos) (tE g X W (ev g.cl (.bc b ts))) := by
  obtain ⟨q1, q2, q3, q4⟩ := ok.blt hb
  cases b <;> simp only [bcF, Option.some.injEq, Prod.mk.injEq, reduceCtorEq] at hz
  case len => obtain ⟨rfl, _⟩ := hz; exact s_fn cb_len q1 q2 (by rfl) ha hs hs2 q3 q4
  case int => obtain ⟨rfl, _⟩ := hz; exact s_ty cb_int q1 q2 (by rfl) ha hs hs2 q3 q4
  case repr => obtain ⟨rfl, _⟩ := hz; exact s_fn (cb_repr ok.gd ok.hu) q1 q2 (by rfl) ha hs hs2 q3 q4
  case max1 => obtain ⟨rfl, _⟩ := hz; exact s_fn (cb_max1 ok.calm ok.hu) q1 q2 (by rfl) ha hs hs2 q3 q4
  case max2 => obtain ⟨rfl, _⟩ := hz; exact s_fn (cb_max2 ok.calm) q1 q2 (by rfl) ha hs hs2 q3 q4
  case min1 => obtain ⟨rfl, _⟩ := hz; exact s_fn (cb_min1 ok.calm ok.hu) q1 q2 (by rfl) ha hs hs2 q3 q4
  case min2 => obtain ⟨rfl, _⟩ := hz; exact s_fn (cb_min2 ok.calm) q1 q2 (by rfl) ha hs hs2 q3 q4
  case sum => obtain ⟨rfl, _⟩ := hz; exact s_fn (cb_sum ok.calm) q1 q2 (by rfl) ha hs hs2 q3 q4
  case list => obtain ⟨rfl, _⟩ := hz; exact s_ty cb_list q1 q2 (by rfl) ha hs hs2 q3 q4
  case tuple => obtain ⟨rfl, _⟩ := hz; exact s_ty cb_tuple q1 q2 (by rfl) ha hs hs2 q3 q4
  case all => obtain ⟨rfl, _⟩ := hz; exact s_fn (cb_all ok.calm) q1 q2 (by rfl) ha hs hs2 q3 q4
  case any => obtain ⟨rfl, _⟩ := hz; exact s_fn (cb_any ok.calm) q1 q2 (by rfl) ha hs hs2 q3 q4
  case abs => obtain ⟨rfl, _⟩ := hz; exact s_fn cb_abs q1 q2 (by rfl) ha hs hs2 q3 q4
theorem base_ok {x : Expr} {nm : Str} {env : PySem.Env} {w : Sem Value} (h : plainB x = true) : attributeBase x nm env w = w := by
  cases x <;> first | rfl | cases h
theorem mt_pe {g : Gs} {X : Cx} {W : WX} {m : Mt} {o : T} {ts : TL} {x : Expr} {xs : List Expr} {ap p : Pos} (ha : PE X x (tE g X W (ev g.cl o))) (hb : PA X xs (tL g X W (evs g.cl ts))) (h1 : plainB x = true) (h2 : xs.length < 30) (h3 : (ap.endLine == p.line) = true) (h4 : xs.all noStar = true) (hn : xs = [] → ts = .nil) :
    PE X (.Call (.Attribute x (mtF m) ap) xs [] p) (tE g X W (ev g.cl (.mt m o ts))) := by
  cases xs with
  | nil =>
    rw [hn rfl]
    cases m
    case append => exact s_mt0 PySem.F.slot_list_append PySem.F.type_list_append cm_append ha (base_ok h1) h3 PySem.F.plainAttrs_list
    case extend => exact s_mt0 PySem.F.slot_list_extend PySem.F.type_list_extend cm_extend ha (base_ok h1) h3 PySem.F.plainAttrs_list
    case pop => exact s_mt0 PySem.F.slot_list_pop PySem.F.type_list_pop cm_pop ha (base_ok h1) h3 PySem.F.plainAttrs_list
    case popi => exact s_mt0 PySem.F.slot_list_pop PySem.F.type_list_pop cm_popi ha (base_ok h1) h3 PySem.F.plainAttrs_list
  | cons y ys =>
    simp only [List.all_cons, Bool.and_eq_true] at h4
    cases m
    case append => exact s_mt PySem.F.slot_list_append PySem.F.type_list_append cm_append ha hb (base_ok h1) h2 h4.1 h4.2 h3 PySem.F.plainAttrs_list
    case extend => exact s_mt PySem.F.slot_list_extend PySem.F.type_list_extend cm_extend ha hb (base_ok h1) h2 h4.1 h4.2 h3 PySem.F.plainAttrs_list
    case pop => exact s_mt PySem.F.slot_list_pop PySem.F.type_list_pop cm_pop ha hb (base_ok h1) h2 h4.1 h4.2 h3 PySem.F.plainAttrs_list
    case popi => exact s_mt PySem.F.slot_list_pop PySem.F.type_list_pop cm_popi ha hb (base_ok h1) h2 h4.1 h4.2 h3 PySem.F.plainAttrs_list
theorem range_ok {n : Nat} {c : Ck} {g : Gs} {X : Cx} {W : WX} {x : Str} (ok : XOk n c g X W) (z : Str) (h : (x == z && c.blt x) = true) : x = z ∧ Gl X x ∧ X.mg x = none := by
  simp only [Bool.and_eq_true] at h
  obtain ⟨q1, q2, _, _⟩ := ok.blt h.2
  exact ⟨eq_of_beq h.1, q1, q2⟩
/-- what is walked -/
def chkQ (c : Ck) (q : Qk) (es : TL) (tg iter : Expr) : Bool := match q with
  | .e => (match es with
    | .cons t .nil => chk c false t iter
    | _ => false)
  | .rng1 => (match iter with
    | .Call (.Name x _) [a] [] _ => x == "range" && c.blt x && chkL c es [a]
    | _ => false)
  | .rng2 => (match iter with
    | .Call (.Name x _) [a, b] [] _ => x == "range" && c.blt x && chkL c es [a, b]
    | _ => false)
  | .enm => (match tg, iter with
    | .Tuple _ _ _, .Call (.Name x _) [a] [] _ => x == "enumerate" && c.blt x && chkL c es [a]
    | _, _ => false)
  | _ => false
def collQ (q : Qk) (es : TL) (iter : Expr) : List LamX := match q with
  | .e => collL es [iter]
  | _ => (match iter with
    | .Call _ xs _ _ => collL es xs
    | _ => [])
theorem chkQ_gen {n : Nat} {c : Ck} {g : Gs} {X : Cx} {W : WX} {q : Qk} {es : TL} {tg iter : Expr} (ok : XOk n c g X W) (lm : Lams g (collQ q es iter)) (h : chkQ c q es tg iter = true)
    (h1 : ∀ t x, es = .cons t .nil → Lams g (coll t x) → chk c false t x = true → PE X x (tE g X W (ev g.cl t)))
    (h2 : ∀ xs, Lams g (collL es xs) → chkL c es xs = true → PA X xs (tL g X W (evs g.cl es)) ∧ xs.all noStar = true) : PI X tg iter (tQ g X W q es) := by
  have two : ∀ {t t2 : T} {r : TL} {x : Expr}, chkL c (.cons t (.cons t2 r)) [x] = true → False := fun {t t2 r x} z => by simp [chkL] at z
  cases q with
  | e =>
    simp only [chkQ] at h
    split at h
    · rename_i t
      simp only [collQ, collL] at lm
      exact q_e (h1 t iter rfl lm.l h)
    · cases h
  | rng1 =>
    simp only [chkQ] at h
    split at h
    · rename_i x p a p2
      rw [Bool.and_eq_true] at h
      obtain ⟨e, q1, q2⟩ := range_ok ok "range" h.1
      subst e
      simp only [collQ] at lm
      obtain ⟨r1, r2⟩ := h2 [a] lm h.2
      simp only [List.all_cons, Bool.and_eq_true] at r2
      cases es with
      | nil => simp only [chkL, List.isEmpty, Bool.false_eq_true, and_false] at h
      | cons t r => cases r with
        | nil => exact q_rng1 q1 q2 r1 r2.1
        | cons t2 r => exact (two h.2).elim
    · cases h
  | rng2 =>
    simp only [chkQ] at h
    split at h
    · rename_i x p a b p2
      rw [Bool.and_eq_true] at h
      obtain ⟨e, q1, q2⟩ := range_ok ok "range" h.1
      subst e
      simp only [collQ] at lm
      obtain ⟨r1, r2⟩ := h2 [a, b] lm h.2
      simp only [List.all_cons, Bool.and_eq_true] at r2
      cases es with
      | nil => simp only [chkL, List.isEmpty, Bool.false_eq_true, and_false] at h
      | cons t r => cases r with
        | nil => have z := h.2; simp [chkL] at z
        | cons t2 r => cases r with
          | nil => exact q_rng2 q1 q2 r1 r2.1 r2.2.1
          | cons t3 r => have z := h.2; simp [chkL] at z
    · cases h
  | enm =>
    simp only [chkQ] at h
    split at h
    · rename_i x p a p2
      rw [Bool.and_eq_true] at h
      obtain ⟨e, q1, q2⟩ := range_ok ok "enumerate" h.1
      subst e
      simp only [collQ] at lm
      obtain ⟨r1, r2⟩ := h2 [a] lm h.2
      simp only [List.all_cons, Bool.and_eq_true] at r2
      cases es with
      | nil => simp only [chkL, List.isEmpty, Bool.false_eq_true, and_false] at h
      | cons t r => cases r with
        | nil => exact q_enm q1 q2 r1 r2.1
        | cons t2 r => exact (two h.2).elim
    · cases h
  | zip => simp only [chkQ, Bool.false_eq_true] at h
  | rv => simp only [chkQ, Bool.false_eq_true] at h
theorem blk_ok {n : Nat} {c : Ck} {g : Gs} {X : Cx} {W : WX} {scope : Scope} {own : List Nat} (ok : XOk n c g X W) (h : blkB c scope own = true) : BlkOk X.N X.env.scope scope (own.map fun i => ((c.N[i]?).getD "", i)) := by
  simp only [blkB, Bool.and_eq_true, decide_eq_true_eq, List.all_eq_true, Bool.or_eq_true, Bool.not_eq_true', decide_eq_false_iff_not, List.any_eq_true] at h
  obtain ⟨⟨⟨⟨h1, h2⟩, h3⟩, h4⟩, h5⟩ := h
  refine ⟨h1, h2, fun p hp => ?_, fun y hy e => ?_, fun y hy e => ?_⟩
  · obtain ⟨i, hi, rfl⟩ := List.mem_map.mp hp
    have z := h3 i hi
    rw [ok.N]
    cases e : c.N[i]? with
    | none => rw [e] at z; cases z
    | some x => rfl
  · rw [ok.sc]
    rcases h4 y hy with (z | z) | z
    · exact absurd e z
    · exact .inl z
    · exact .inr z
  · rcases h5 y hy with (z | ⟨i, hi, z⟩) | z
    · have z2 : ¬ (y.2 = NameKind.local ∨ y.2 = NameKind.cell) := by simpa using z
      exact absurd e z2
    · refine .inl (List.mem_map.mpr ⟨((c.N[i]?).getD "", i), List.mem_map.mpr ⟨i, hi, rfl⟩, by rw [z]; rfl⟩)
    · refine .inr ?_
      rw [ok.N]
      intro m
      rw [List.contains_iff_mem.mpr m] at z
      cases z
theorem lc_gen {n : Nat} {c : Ck} {k : Bool} {g : Gs} {X : Cx} {W : WX} {own : List Nat} {gt : G} {q : Qk} {es cs : TL} {el : T} {elt tg iter : Expr} {ifs : List Expr} {isA : Int} {scope : Scope} {pos : Pos} (ok : XOk n c g X W)
    (h : chk c k (.lc own gt q es cs el) (.ListComp elt [⟨tg, iter, ifs, isA⟩] scope pos) = true) (lm : Lams g (coll (.lc own gt q es cs el) (.ListComp elt [⟨tg, iter, ifs, isA⟩] scope pos)))
    (hel : ∀ {X' W'}, XOk n (c.blk scope) g X' W' → Lams g (coll el elt) → chk (c.blk scope) false el elt = true → PE X' elt (tE g X' W' (ev g.cl el)))
    (hcs : ∀ t x, cs = .cons t .nil → Lams g (coll t x) → ∀ {X' W'}, XOk n (c.blk scope) g X' W' → chk (c.blk scope) true t x = true → PT X' x (tT g X' W' t))
    (h1 : ∀ t x, es = .cons t .nil → Lams g (coll t x) → chk c false t x = true → PE X x (tE g X W (ev g.cl t)))
    (h2 : ∀ xs, Lams g (collL es xs) → chkL c es xs = true → PA X xs (tL g X W (evs g.cl es)) ∧ xs.all noStar = true) :
    isA = 0 ∧ LcOk g X W elt tg iter ifs scope (own.map fun i => ((c.N[i]?).getD "", i)) gt q es cs el := by
  unfold chk at h
  dsimp only at h
  rw [Bool.and_eq_true, Bool.and_eq_true, Bool.and_eq_true, Bool.and_eq_true, Bool.and_eq_true, Bool.and_eq_true, Bool.and_eq_true] at h
  obtain ⟨⟨⟨⟨⟨⟨⟨h0, h3⟩, h4⟩, h5⟩, h6⟩, h7⟩, h8⟩, h9⟩ := h
  simp only [coll] at lm
  have hk : scope.kind = .function := by
    simp only [blkB, Bool.and_eq_true, decide_eq_true_eq] at h4
    exact h4.1.1.1.1
  refine ⟨of_decide_eq_true h3, ok.calm, ok.nd, ok.mo, fun j hj => ?_, chkQ_gen ok lm.r.r h9 h1 h2, blk_ok ok h4, fun s H C cl fp => chkG_ok gt (ok.blk hk s H C cl fp) h6, fun s H C cl fp => ?_, fun s H C cl fp => hel (ok.blk hk s H C cl fp) lm.l h7, fun x => ?_⟩
  · rw [List.map_map]
    exact List.mem_map.mpr ⟨j, List.contains_iff_mem.mp (List.all_eq_true.mp h5 j hj), rfl⟩
  · cases cs with
    | nil => cases ifs with
      | nil => exact ts_nil
      | cons x xs => cases h8
    | cons t r => cases r with
      | cons _ _ => cases h8
      | nil => cases ifs with
        | nil => cases h8
        | cons x xs => cases xs with
          | cons _ _ => cases h8
          | nil =>
            have lm2 := lm.r.l
            simp only [collL] at lm2
            exact ts_one (hcs t x rfl lm2.l (ok.blk hk s H C cl fp) h8)
  · cases iter <;> first | rfl | cases h0
theorem chk_lc {c : Ck} {k : Bool} {own : List Nat} {gt : G} {q : Qk} {es cs : TL} {el : T} {e : Expr} (h : chk c k (.lc own gt q es cs el) e = true) : ∃ elt tg iter ifs isA scope pos, e = .ListComp elt [⟨tg, iter, ifs, isA⟩] scope pos := by
  unfold chk at h
  split at h
  · exact ⟨_, _, _, _, _, _, _, rfl⟩
  · cases h
mutual
theorem chk_ok {n : Nat} {g : Gs} : ∀ (t : T) {c : Ck} {k : Bool} {X : Cx} {W : WX} {e : Expr}, XOk n c g X W → Lams g (coll t e) → chk c k t e = true → Good k g X W t e
  | .loc i, c, k, X, W, e, ok, lm, h => by
    cases e with
    | Name x p =>
      simp only [chk] at h
      obtain ⟨h1, h2, h3, h4⟩ := ok.nm h
      exact good_of (s_loc h1 h2 h3 h4) fun _ => rfl
    | _ => simp only [chk, Bool.false_eq_true] at h
  | .cst d, c, k, X, W, e, ok, lm, h => by
    simp only [chk] at h
    refine good_of (chkC_ok ok h) ?_
    cases e with
    | Name x p => exact fun _ => rfl
    | Constant v j p => exact fun _ => rfl
    | _ => cases d <;> simp only [chkC, Bool.false_eq_true] at h
  | .bin o a b, c, k, X, W, e, ok, lm, h => by
    cases e with
    | BinOp x op y p =>
      simp only [chk, Bool.and_eq_true, decide_eq_true_eq] at h
      obtain ⟨rfl, h1, h2⟩ := h
      simp only [coll] at lm
      exact good_of (s_bin (chk_ok a ok lm.l h1) (chk_ok b ok lm.r h2)) fun _ => rfl
    | _ => simp only [chk, Bool.false_eq_true] at h
  | .neg a, c, k, X, W, e, ok, lm, h => by
    cases e with
    | UnaryOp op x p =>
      cases op with
      | USub =>
        simp only [chk] at h
        simp only [coll] at lm
        exact good_of (s_neg (chk_ok a ok lm h)) fun _ => rfl
      | _ => simp only [chk, Bool.false_eq_true] at h
    | _ => simp only [chk, Bool.false_eq_true] at h
  | .not a, c, k, X, W, e, ok, lm, h => by
    cases e with
    | UnaryOp op x p =>
      cases op with
      | Not =>
        simp only [chk] at h
        simp only [coll] at lm
        have z := chk_ok a ok lm h
        cases k with
        | false => exact s_not z
        | true => exact t_not z
      | _ => simp only [chk, Bool.false_eq_true] at h
    | _ => simp only [chk, Bool.false_eq_true] at h
  | .cmp o a b, c, k, X, W, e, ok, lm, h => by
    simp only [chk] at h
    split at h
    · rename_i x op y p
      simp only [Bool.and_eq_true, decide_eq_true_eq, Bool.not_eq_true'] at h
      obtain ⟨⟨rfl, h1, h2⟩, h3⟩ := h
      simp only [coll] at lm
      have r1 := chk_ok a ok lm.l h1
      have r2 := chk_ok b ok lm.r h2
      cases k with
      | false => exact s_cmp (hu65 ok) r1 r2 h3
      | true => exact t_cmp (hu65 ok) r1 r2 h3
    · cases h
  | .chn o q a b d, c, k, X, W, e, ok, lm, h => by
    simp only [chk] at h
    split at h
    · rename_i x op oq y z p
      simp only [Bool.and_eq_true, decide_eq_true_eq, Bool.not_eq_true'] at h
      obtain ⟨⟨⟨rfl, rfl⟩, ⟨h1, h2⟩, h4⟩, h3⟩ := h
      simp only [coll] at lm
      have r1 := chk_ok a (k := false) ok lm.l h1
      have r2 := chk_ok b (k := false) ok lm.r.l h2
      have r3 := chk_ok d (k := false) ok lm.r.r h4
      cases k with
      | false => exact s_chn (hu65 ok) r1 r2 r3 h3
      | true => exact t_chn (hu65 ok) r1 r2 r3 h3
    · cases h
  | .and a b, c, k, X, W, e, ok, lm, h => by
    simp only [chk] at h
    split at h
    · rename_i x y r p
      simp only [Bool.and_eq_true] at h
      obtain ⟨h1, h2⟩ := h
      simp only [coll] at lm
      have r1 := chk_ok a ok lm.l h1
      cases r with
      | nil =>
        have r2 := chk_ok b ok lm.r h2
        cases k with
        | false => exact s_and r1 (pe_one r2)
        | true => exact (t_and r1 (t_and1 r2)).pt
      | cons z r =>
        have r2 := chk_ok b ok lm.r h2
        cases k with
        | false => exact s_and r1 r2
        | true => exact (t_and r1 (pw_of r2)).pt
    · cases h
  | .or a b, c, k, X, W, e, ok, lm, h => by
    simp only [chk] at h
    split at h
    · rename_i x y r p
      simp only [Bool.and_eq_true] at h
      obtain ⟨h1, h2⟩ := h
      simp only [coll] at lm
      have r1 := chk_ok a ok lm.l h1
      cases r with
      | nil =>
        have r2 := chk_ok b ok lm.r h2
        cases k with
        | false => exact s_or r1 (pe_one r2)
        | true => exact (t_or r1 (t_or1 r2)).pt
      | cons z r =>
        have r2 := chk_ok b ok lm.r h2
        cases k with
        | false => exact s_or r1 r2
        | true => exact (t_or r1 (pw_of r2)).pt
    · cases h
  | .ite t a b, c, k, X, W, e, ok, lm, h => by
    simp only [chk] at h
    split at h
    · rename_i x y z p
      simp only [Bool.and_eq_true] at h
      obtain ⟨⟨h1, h2⟩, h3⟩ := h
      simp only [coll] at lm
      have r1 := chk_ok t ok lm.l h1
      have r2 := chk_ok a ok lm.r.l h2
      have r3 := chk_ok b ok lm.r.r h3
      cases k with
      | false => exact s_ite r1 r2 r3
      | true => exact t_ite r1 r2 r3
    · cases h
  | .tup es, c, k, X, W, e, ok, lm, h => by
    simp only [chk] at h
    split at h
    · simp only [Bool.and_eq_true, decide_eq_true_eq] at h
      simp only [coll] at lm
      exact good_of (s_tup (chkL_ok es ok lm h.1).1 h.2) fun _ => rfl
    · cases h
  | .lst es, c, k, X, W, e, ok, lm, h => by
    simp only [chk] at h
    split at h
    · simp only [Bool.and_eq_true, decide_eq_true_eq] at h
      simp only [coll] at lm
      exact good_of (s_lst (chkL_ok es ok lm h.1).1 h.2) fun _ => rfl
    · cases h
  | .box a, c, k, X, W, e, ok, lm, h => by
    simp only [chk, Bool.and_eq_true, Bool.not_eq_true'] at h
    obtain ⟨rfl, h⟩ := h
    simp only [coll] at lm
    exact s_box (chk_ok a ok lm h)
  | .idx a i, c, k, X, W, e, ok, lm, h => by
    simp only [chk] at h
    split at h
    · rename_i x y p
      simp only [Bool.and_eq_true] at h
      obtain ⟨⟨h1, h2⟩, h3⟩ := h
      simp only [coll] at lm
      refine good_of (s_idx (chk_ok a ok lm.l h1) (chk_ok i ok lm.r h2) (plainIx_ok h3)) fun _ => rfl
    · cases h
  | .no, c, k, X, W, e, ok, lm, h => by simp only [chk, Bool.false_eq_true] at h
  | .rev _, c, k, X, W, e, ok, lm, h => by simp only [chk, Bool.false_eq_true] at h
  | .fn _, c, k, X, W, e, ok, lm, h => by simp only [chk, Bool.false_eq_true] at h
  | .lam _ _, c, k, X, W, e, ok, lm, h => by simp only [chk, Bool.false_eq_true] at h
  | .lrng _, c, k, X, W, e, ok, lm, h => by simp only [chk, Bool.false_eq_true] at h
  | .trng _, c, k, X, W, e, ok, lm, h => by simp only [chk, Bool.false_eq_true] at h
  | .mt m o es, c, k, X, W, e, ok, lm, h => by
    simp only [chk] at h
    split at h
    · rename_i x nm ap xs p
      simp only [Bool.and_eq_true, decide_eq_true_eq] at h
      obtain ⟨⟨⟨⟨⟨h1, h2⟩, h3⟩, h4⟩, h5⟩, h6⟩ := h
      have e : nm = mtF m := eq_of_beq h1
      subst e
      simp only [coll] at lm
      have r := chk_ok o (k := false) ok lm.l h4
      obtain ⟨r1, r2⟩ := chkL_ok es ok lm.r h6
      refine good_of (mt_pe r r1 h2 h5 h3 r2 fun z => ?_) fun _ => rfl
      subst z
      cases es with
      | nil => rfl
      | cons _ _ => simp only [chkL, Bool.false_eq_true] at h6
    · cases h
  | .bc b es, c, k, X, W, e, ok, lm, h => by
    unfold chk at h
    split at h
    · rename_i x p1 xs p
      simp only [coll] at lm
      cases hk : isK b with
      | some t =>
        rw [hk] at h
        simp only at h
        split at h
        · rename_i y tn p2
          simp only [Bool.and_eq_true, decide_eq_true_eq] at h
          obtain ⟨⟨⟨⟨⟨h1, h2⟩, h3⟩, h4⟩, h5⟩, h6⟩ := h
          split at h6
          · rename_i ta
            have e : x = "isinstance" := eq_of_beq h1
            subst e
            obtain ⟨q1, q2, _, _⟩ := ok.blt h2
            obtain ⟨q3, q4, q5, q6⟩ := ok.blt h3
            simp only [collL] at lm
            exact good_of (s_isinst hk q1 q2 q3 q4 h4 q5 q6 (chk_ok ta (k := false) ok lm.l h6) h5) fun _ => rfl
          · cases h6
        · cases h
      | none =>
        rw [hk] at h
        simp only [Bool.and_eq_true, Bool.not_eq_true'] at h
        obtain ⟨⟨h1, h2⟩, h3⟩ := h
        obtain ⟨r1, r2⟩ := chkL_ok es ok lm h3
        cases xs with
        | nil => cases h2
        | cons y ys =>
          simp only [List.all_cons, Bool.and_eq_true] at r2
          refine good_of ?_ fun _ => rfl
          by_cases hg : b = .gcd
          · subst hg
            simp only [Bool.and_eq_true] at h1
            obtain ⟨⟨g1, g2⟩, g3⟩ := h1
            have e : x = "gcd" := eq_of_beq g2
            subst e
            exact s_gcd (ok.gl g3) (ok.gcd (by rw [ok.inf]; exact g1)) r1 r2.1 r2.2 (by decide)
          · have h1' : (match bcF b with
              | some (z, _) => x == z && c.blt x
              | none => false) = true := by cases b <;> first | exact h1 | exact (hg rfl).elim
            split at h1'
            · rename_i z v hz
              simp only [Bool.and_eq_true] at h1'
              have e : x = z := eq_of_beq h1'.1
              subst e
              exact bc_pe ok hz h1'.2 r1 r2.1 r2.2
            · cases h1'
    · cases h
  | .sl a lo hi, c, k, X, W, e, ok, lm, h => by
    simp only [chk] at h
    split at h
    · rename_i x l u p1 p
      simp only [Bool.and_eq_true] at h
      obtain ⟨⟨h1, h2⟩, h3⟩ := h
      simp only [coll] at lm
      have r1 := chk_ok a ok lm.l h1
      have r2 : PO X l (tO g X W (evo g.cl lo)) := by
        cases l with
        | none =>
          cases lo with
          | no => exact s_no
          | _ => cases h2
        | some l => exact s_some (fun z => by rw [z] at h2; simp only [chk, Bool.false_eq_true] at h2) (chk_ok lo ok lm.r.l h2)
      have r3 : PO X u (tO g X W (evo g.cl hi)) := by
        cases u with
        | none =>
          cases hi with
          | no => exact s_no
          | _ => cases h3
        | some u => exact s_some (fun z => by rw [z] at h3; simp only [chk, Bool.false_eq_true] at h3) (chk_ok hi ok lm.r.r h3)
      exact good_of (s_sl r1 r2 r3) fun _ => rfl
    · cases h
  | .call f es, c, k, X, W, e, ok, lm, h => by
    simp only [chk] at h
    split at h
    · rename_i x p1 xs p
      simp only [Bool.and_eq_true] at h
      obtain ⟨⟨⟨h1, h2⟩, h3⟩, h4⟩ := h
      simp only [coll] at lm
      obtain ⟨r1, r2⟩ := chkA_ok es ok lm h4
      obtain ⟨fi, a, e1, e2, e3, e4⟩ := ok.fnAt h3
      subst e2
      have g1 := ok.gl h1
      have g2 := (okName.of h2).1
      cases xs with
      | nil =>
        cases es with
        | nil => exact good_of (s_call0 ok.ok ok.room ok.gd ok.tk e1 g1 e3 e4 g2) fun _ => rfl
        | cons t r => exact (chkA_nil h4).elim
      | cons x xs =>
        simp only [List.all_cons, Bool.and_eq_true] at r2
        exact good_of (s_call ok.ok ok.room ok.gd ok.tk e1 g1 e3 e4 g2 r1 r2.1 r2.2) fun _ => rfl
    · cases h
  | .callv i es, c, k, X, W, e, ok, lm, h => by
    simp only [chk] at h
    split at h
    · rename_i x p1 p
      simp only [Bool.and_eq_true] at h
      obtain ⟨h1, h2⟩ := h
      cases es with
      | nil =>
        obtain ⟨q1, q2, q3, q4⟩ := ok.nm h1
        exact good_of (s_callv0 ok.ok ok.room ok.gd ok.tk ok.ff q1 q2 q3 q4) fun _ => rfl
      | cons _ _ => cases h2
    · cases h
  | .lc own gt q es cs el, c, k, X, W, e, ok, lm, h => by
    obtain ⟨elt, tg, iter, ifs, isA, scope, pos, rfl⟩ := chk_lc h
    obtain ⟨rfl, L⟩ := lc_gen ok h lm (fun o l z => chk_ok el (k := false) o l z) (fun t x e l {X' W'} o z => by
      cases cs with
      | nil => cases e
      | cons t' r => cases e; exact chk_ok t (k := true) o l z) (fun t x e l z => by
      cases es with
      | nil => cases e
      | cons t' r => cases e; exact chk_ok t (k := false) ok l z) (fun xs l z => chkL_ok es ok l z)
    have q := s_lc (pos := pos) L
    rw [List.map_map, show (own.map ((fun p : Str × Nat => p.2) ∘ fun i => ((c.N[i]?).getD "", i))) = own from (List.map_congr_left fun _ _ => rfl).trans (List.map_id' own)] at q
    exact good_of q fun _ => rfl
theorem chkA_ok {n : Nat} {g : Gs} : ∀ (t : TL) {c : Ck} {X : Cx} {W : WX} {es : List Expr}, XOk n c g X W → Lams g (collL t es) → chkA c t es = true → PAx g X W es t ∧ es.all noStar = true
  | .nil, c, X, W, es, ok, lm, h => by
    cases es with
    | nil => exact ⟨x_nil, rfl⟩
    | cons x xs => simp only [chkA, List.isEmpty, Bool.false_eq_true] at h
  | .cons t r, c, X, W, es, ok, lm, h => chkA_step ok (fun x l z => chk_ok t (k := false) ok l z) (fun xs l z => chkA_ok r ok l z) lm h
theorem chkL_ok {n : Nat} {g : Gs} : ∀ (t : TL) {c : Ck} {X : Cx} {W : WX} {es : List Expr}, XOk n c g X W → Lams g (collL t es) → chkL c t es = true → PA X es (tL g X W (evs g.cl t)) ∧ es.all noStar = true
  | .nil, c, X, W, es, ok, lm, h => by
    cases es with
    | nil => exact ⟨s_nil, rfl⟩
    | cons x xs => simp only [chkL, List.isEmpty, Bool.false_eq_true] at h
  | .cons t r, c, X, W, es, ok, lm, h => by
    cases es with
    | nil => simp only [chkL, Bool.false_eq_true] at h
    | cons x xs =>
      simp only [chkL, Bool.and_eq_true] at h
      simp only [collL] at lm
      obtain ⟨⟨h1, h2⟩, h3⟩ := h
      obtain ⟨r1, r2⟩ := chkL_ok r ok lm.r h3
      exact ⟨s_cons (chk_ok t ok lm.l h2) r1 h1, by simp only [List.all_cons, h1, r2, Bool.and_self]⟩
end
end Ev

set_option Elab.async false
set_option linter.all false
set_option maxRecDepth 100000
/-! Ev21: the checker of statements -/
namespace Ev
open PySem L2
def noComp : Expr → Bool
  | .ListComp _ _ _ _ => false
  | .SetComp _ _ _ _ => false
  | .DictComp _ _ _ _ _ => false
  | _ => true
theorem noComp_ok {e : Expr} {t : Option Expr} {l : Nat} {env : PySem.Env} (h : noComp e = true) : swapsWith e t l env = pure false := by
  cases e <;> first | rfl | cases h
/-- a comprehension's value takes the name's place -/
def swNm (c : Ck) (scope : Scope) (y : Str) (py vp : Pos) : Bool := (c.sc.names.lookup y == some .local) && py.line == vp.line && !(scope.names.any fun (n, k) => n == y && (k == .local || k == .cell))
theorem swNm_ok {n : Nat} {c : Ck} {g : Gs} {X : Cx} {W : WX} {elt : Expr} {gs : List Comprehension} {scope : Scope} {y : Str} {py vp : Pos} {l : Nat} (ok : XOk n c g X W) : swapsWith (.ListComp elt gs scope vp) (some (.Name y py)) l X.env = pure (swNm c scope y py vp) := by
  have bk : X.env.blockKind = .function := by unfold PySem.Env.blockKind; rw [ok.kind]; rfl
  have e : X.env.kindOf y = c.sc.names.lookup y := by show X.env.scope.names.lookup y = _; rw [ok.sc]
  unfold swapsWith swNm
  simp only [bk, e]
  rfl
/-- no two names take two values -/
def noPar (c : Ck) (tg v : Expr) : Bool := match tg, v with
  | .Tuple ts _ _, .Tuple vs _ _ => !(ts.length == 2 || ts.length == 3) || vs.length != ts.length
  | .List _ _, _ => false
  | _, _ => true
theorem noPar_ok {c : Ck} {tg v : Expr} {env : PySem.Env} (h : noPar c tg v = true) : swappedStores [tg] v env = pure none := by
  cases tg with
  | List _ _ => cases h
  | Tuple ts k p => cases v with
    | Tuple vs k2 p2 =>
      have h' : (!(ts.length == 2 || ts.length == 3) || vs.length != ts.length) = true := h
      unfold swappedStores
      refine if_pos ?_
      rw [h', Bool.true_or]
    | _ => rfl
  | _ => rfl
def isLc : T → Bool
  | .lc _ _ _ _ _ _ => true
  | .box (.lc _ _ _ _ _ _) => true
  | _ => false
/-- a store's place is no slice -/
def noSl : Expr → Bool
  | .Slice _ _ _ _ => false
  | _ => true
/-- a = e -/
def chkAsg (c : Ck) (g : G) (e : T) (tg v : Expr) : Bool := match v with
  | .ListComp _ _ scope vp => (match tg with
    | .Name y py => if swNm c scope y py vp then (match g with
        | .nm i => decide (c.N[i]? = some y) && isLc e && chk c false e v
        | _ => false) else chkG c g tg && chk c false e v
    | _ => false)
  | v => (match g, e, tg, v with
    | .tup (.nm i) (.tup (.nm j) .nil), .tup (.cons ta (.cons tb .nil)), .Tuple [.Name x px, .Name y py] _ _, .Tuple [a, b] _ _ =>
      decide (c.N[i]? = some x) && decide (c.N[j]? = some y) && parB c.sc x y px py a b && chkL c (.cons ta (.cons tb .nil)) [a, b]
    | _, _, _, _ => false) || (noComp v && noPar c tg v && noStar tg && chkG c g tg && chk c false e v)
/-- the clauses of a try -/
def chkH (c : Ck) (n : Str) : List (Nat × Str) → List ExceptHandler → Bool
  | [], hs => hs.isEmpty
  | (k, t) :: r, hs => match hs with
    | .ExceptHandler (some (.Name x _)) (some n1) [.Return (some (.Tuple [.Constant (.str z) _ _, .Attribute (.Name n2 _) w _] _ _)) _] _ :: hs =>
      n1 == n && n2 == n && z == t && w == "what" && decide (c.inf.cls[k]? = some x) && !(k == 0) && c.gl x && okName x && chkH c n r hs
    | _ => false
def chkN (c : Ck) (i : Nat) (x : Str) : Bool := decide (c.N[i]? = some x) && (decide (c.sc.names.lookup x = some .local) || (decide (c.sc.names.lookup x = some .cell) && c.fn x))
def isAdd : Bop → Bool
  | .add => true
  | .sub => true
  | _ => false
def isScope : S → Bool
  | .scope _ _ => true
  | _ => false
/-- s is the suite ps -/
def chkS (c : Ck) : S → List Stmt → Bool
  | .ex e, ps => match ps with
    | [.Expr a _] => noComp a && chk c false e a
    | _ => false
  | .asg g e, ps => match ps with
    | [.Assign [tg] v _] => chkAsg c g e tg v
    | _ => false
  | .setI o i e, ps => match ps with
    | [.Assign [.Subscript x y _] v _] => noComp v && noSl y && chk c false e v && (chk c false o x && chk c false i y)
    | _ => false
  | .setSl _ _ _ _, _ => false
  | .aug i o e, ps => match ps with
    | [.AugAssign (.Name x _) op a _] => isAdd o && decide (op = opOf o) && chkN c i x && chk c false e a
    | _ => false
  | .ret e, ps => match ps with
    | [.Return (some a) _] => chk c false e a
    | _ => false
  | .retN, ps => match ps with
    | [.Return none _] => true
    | _ => false
  | .ife t a b, ps => match ps with
    | [.If x qs rs _] => chk c true t x && (chkS c a qs && chkS c b rs)
    | _ => false
  | .fr g q es b, ps => match ps with
    | [.For tg iter qs [] _] => noSet iter && chkQ c q es tg iter && chkG c g tg && chkS c b qs
    | _ => false
  | .wh t b, ps => match ps with
    | [.While x qs [] _] => chk c true t x && chkS c b qs
    | _ => false
  | .brk, ps => match ps with
    | [.Break _] => true
    | _ => false
  | .cnt, ps => match ps with
    | [.Continue _] => true
    | _ => false
  | .skip, ps => match ps with
    | [] => true
    | [.Pass _] => true
    | _ => false
  | .rais k e, ps => match ps with
    | [.Raise (some (.Call (.Name x _) [a] [] _)) none _] => decide (c.inf.cls[k]? = some x) && c.gl x && okName x && noStar a && chk c false e a
    | _ => false
  | .tri b hs, ps => match ps with
    | [.Try body (.ExceptHandler o (some n) d p :: hds) [] [] _] => c.N.contains n && decide (c.sc.names.lookup n = some .local) && okName n && chkH c n hs (.ExceptHandler o (some n) d p :: hds) && chkS c b body
    | _ => false
  | .seq a b, ps => match ps with
    | p :: q :: r => !isScope a && chkS c a [p] && chkS c b (q :: r)
    | _ => false
  | .scope _ b, ps => chkS c b ps
/-- the lambdas of a suite -/
def collS : S → List Stmt → List LamX
  | .ex e, ps => match ps with
    | [.Expr a _] => coll e a
    | _ => []
  | .asg _ e, ps => match ps with
    | [.Assign _ v _] => coll e v
    | _ => []
  | .setI o i e, ps => match ps with
    | [.Assign [.Subscript x y _] v _] => coll e v ++ (coll o x ++ coll i y)
    | _ => []
  | .aug _ _ e, ps => match ps with
    | [.AugAssign _ _ a _] => coll e a
    | _ => []
  | .ret e, ps => match ps with
    | [.Return (some a) _] => coll e a
    | _ => []
  | .ife t a b, ps => match ps with
    | [.If x qs rs _] => coll t x ++ (collS a qs ++ collS b rs)
    | _ => []
  | .fr _ q es b, ps => match ps with
    | [.For _ iter qs _ _] => collQ q es iter ++ collS b qs
    | _ => []
  | .wh t b, ps => match ps with
    | [.While x qs _ _] => coll t x ++ collS b qs
    | _ => []
  | .rais _ e, ps => match ps with
    | [.Raise (some (.Call _ [a] _ _)) _ _] => coll e a
    | _ => []
  | .tri b _, ps => match ps with
    | [.Try body _ _ _ _] => collS b body
    | _ => []
  | .seq a b, ps => match ps with
    | p :: q :: r => collS a [p] ++ collS b (q :: r)
    | _ => []
  | .scope _ b, ps => collS b ps
  | _, _ => []
/-- the errors of the text -/
structure ErrsOk (inf : Inf) (prog : Program) (w : World) (K : PySem.W.Frag) (mg : Str → Option Value) (base : Heap) : Prop where
  at_ : ∀ (c : Nat) (x : Str), inf.cls[c]? = some x → ∃ C, mg x = some (.ref C)
  ec : ∀ c C, IsC mg inf c C → ErrC K C
  exm : ∀ c C c' C', c ≠ 0 → IsC mg inf c C → IsC mg inf c' C' → PySem.W.exmOne K (.ref C') (.ref C) = some (decide (c = c'))
  mkE : ∀ c C, IsC mg inf c C → ∃ fI fd ps, PySem.W.findIn K (.ref C) "__init__" = some (some (.ref fI)) ∧ PySem.W.typeIn K (.ref fI) = some (.type "function") ∧ FnOk prog w K mg base (L2.CX prog w) 1 fI fd ps (initSp K) ∧ Binds K fd ps []
structure SOk (n : Nat) (c : Ck) (g : Gs) (X : Cx) (W : WX) : Prop where
  x : XOk n c g X W
  po : PassesOwn (model X.prog X.w) X.A X.env X.xe
  sk : X.stack = X.env :: X.outer
  fr : X.env.frame = some X.env.locals
  er : ErrsOk g.inf X.prog X.w X.K X.mg X.base
  n2 : 2 ≤ n
theorem SOk.tr {n : Nat} {c : Ck} {g : Gs} {X : Cx} {W W' : WX} {pn : List (Addr × Obj)} {xe : Value → Shared → Prop} (k : SOk n c g X W) (t : Takes (X.tr pn xe) W') (o : PassesOwn (model X.prog X.w) X.A X.env xe) : SOk n c g (X.tr pn xe) W' where
  x := ⟨k.x.N, k.x.nd, k.x.kind, k.x.sc, k.x.fn, k.x.inf, k.x.calm, k.x.room, k.x.gd, k.x.hu, t, k.x.ok, k.x.mo, k.x.ff, k.x.fre, k.x.num, k.x.gcd, k.x.tab, k.x.qual⟩
  po := o
  sk := k.sk
  fr := k.fr
  er := k.er
  n2 := k.n2
section
variable {n : Nat} {c : Ck} {g : Gs} {X : Cx} {W : WX}
theorem box_lc {own : List Nat} {gt : G} {q : Qk} {es cs : TL} {el : T} {e : Expr} (h : chk c false (.box (.lc own gt q es cs el)) e = true) : chk c false (.lc own gt q es cs el) e = true := by
  simp only [chk] at h ⊢
  simpa using h
theorem lcAt (ok : XOk n c g X W) {own : List Nat} {gt : G} {q : Qk} {es cs : TL} {el : T} {elt : Expr} {gs : List Comprehension} {scope : Scope} {pos : Pos} (lm : Lams g (coll (.lc own gt q es cs el) (.ListComp elt gs scope pos))) (h : chk c false (.lc own gt q es cs el) (.ListComp elt gs scope pos) = true) :
    ∃ tg iter ifs own', gs = [⟨tg, iter, ifs, 0⟩] ∧ own'.map (·.2) = own ∧ LcOk g X W elt tg iter ifs scope own' gt q es cs el := by
  obtain ⟨elt', tg, iter, ifs, isA, scope', pos', e⟩ := chk_lc h
  cases e
  obtain ⟨rfl, L⟩ := lc_gen ok h lm (fun o l z => chk_ok el (k := false) o l z) (fun t x e l {X' W'} o z => chk_ok t (k := true) o l z) (fun t x e l z => chk_ok t (k := false) ok l z) (fun xs l z => chkL_ok es ok l z)
  refine ⟨_, _, _, _, rfl, ?_, L⟩
  rw [List.map_map]
  exact (List.map_congr_left fun _ _ => rfl).trans (List.map_id' own)
theorem asg_lc (ok : XOk n c g X W) {i : Nat} {e : T} {elt : Expr} {gs : List Comprehension} {scope : Scope} {vp py pos : Pos} {y : Str} (hs : swNm c scope y py vp = true) (hi : c.N[i]? = some y) (hl : isLc e = true) (lm : Lams g (coll e (.ListComp elt gs scope vp))) (h : chk c false e (.ListComp elt gs scope vp) = true) :
    PS X (.Assign [.Name y py] (.ListComp elt gs scope vp) pos) (tS g X W (exS g.cl (.asg (.nm i) e))) := by
  have hy : X.N[i]? = some y := by rw [ok.N]; exact hi
  have hloc : X.env.scope.names.lookup y = some .local := by
    rw [ok.sc]
    simp only [swNm, Bool.and_eq_true] at hs
    exact eq_of_beq hs.1.1
  have sw := swNm_ok (elt := elt) (gs := gs) (scope := scope) (y := y) (py := py) (vp := vp) (l := pos.line) ok
  rw [hs] at sw
  unfold isLc at hl
  split at hl
  · obtain ⟨tg, iter, ifs, own', rfl, rfl, L⟩ := lcAt ok lm h
    exact s_setLc L hy hloc sw
  · simp only [coll] at lm
    obtain ⟨tg, iter, ifs, own', rfl, rfl, L⟩ := lcAt ok (by simpa only [coll] using lm) (box_lc h)
    exact s_setLcB L hy hloc sw
  · cases hl
theorem asg_gen (ok : XOk n c g X W) {gt : G} {e : T} {tg v : Expr} {pos : Pos} (sw : swapsWith v (some tg) pos.line X.env = pure false) (hp : noPar c tg v = true) (hs : noStar tg = true) (hg : chkG c gt tg = true) (lm : Lams g (coll e v)) (h : chk c false e v = true) : PS X (.Assign [tg] v pos) (tS g X W (exS g.cl (.asg gt e))) :=
  s_asg (chk_ok e (k := false) ok lm h) (chkG_ok gt ok hg) sw (noPar_ok hp) (by rw [each_cons hs]; rfl)
theorem asg_par (ok : XOk n c g X W) {i j : Nat} {ta tb : T} {x y : Str} {px py p1 p2 pos : Pos} {k1 k2 : Nat} {a b : Expr} (hi : c.N[i]? = some x) (hj : c.N[j]? = some y) (hb : parB c.sc x y px py a b = true) (lm : Lams g (collL (.cons ta (.cons tb .nil)) [a, b])) (h : chkL c (.cons ta (.cons tb .nil)) [a, b] = true) :
    PS X (.Assign [.Tuple [.Name x px, .Name y py] k1 p1] (.Tuple [a, b] k2 p2) pos) (tS g X W (exS g.cl (.asg (.tup (.nm i) (.tup (.nm j) .nil)) (.tup (.cons ta (.cons tb .nil)))))) := by
  have hb' : parB X.env.scope x y px py a b = true := by rw [ok.sc]; exact hb
  have pk := par_ok (pt := p1) (pt2 := p2) (kt := k1) (k2 := k2) ok.kind hb'
  simp only [parB, Bool.and_eq_true, decide_eq_true_eq, Bool.not_eq_true', decide_eq_false_iff_not] at hb'
  obtain ⟨⟨⟨⟨⟨⟨⟨h1, h2⟩, h3⟩, _⟩, _⟩, _⟩, _⟩, _⟩ := hb'
  have ij : i ≠ j := fun z => h3 (by rw [z, hj] at hi; exact (Option.some.inj hi).symm)
  exact s_par ok.calm ok.nd (by rw [ok.N]; exact hi) (by rw [ok.N]; exact hj) ij h1 h2 (chkL_ok _ ok lm h).1 pk
theorem asg_ok (ok : XOk n c g X W) {gt : G} {e : T} {tg v : Expr} {pos : Pos} (lm : Lams g (coll e v)) (h : chkAsg c gt e tg v = true) : PS X (.Assign [tg] v pos) (tS g X W (exS g.cl (.asg gt e))) := by
  unfold chkAsg at h
  split at h
  · rename_i elt gs scope vp
    split at h
    · rename_i y py
      by_cases hs : swNm c scope y py vp = true
      · rw [if_pos hs] at h
        split at h
        · simp only [Bool.and_eq_true, decide_eq_true_eq] at h
          exact asg_lc ok hs h.1.1 h.1.2 lm h.2
        · cases h
      · rw [if_neg hs] at h
        simp only [Bool.and_eq_true] at h
        have sw := swNm_ok (elt := elt) (gs := gs) (scope := scope) (y := y) (py := py) (vp := vp) (l := pos.line) ok
        rw [show swNm c scope y py vp = false from by simpa using hs] at sw
        exact asg_gen ok sw rfl rfl h.1 lm h.2
    · cases h
  · rw [Bool.or_eq_true] at h
    rcases h with h | h
    · split at h
      · simp only [Bool.and_eq_true, decide_eq_true_eq] at h
        simp only [coll] at lm
        exact asg_par ok h.1.1.1 h.1.1.2 h.1.2 lm h.2
      · cases h
    · simp only [Bool.and_eq_true] at h
      exact asg_gen ok (noComp_ok h.1.1.1.1) h.1.1.1.2 h.1.1.2 h.1.2 lm h.2
theorem chkN_ok (ok : XOk n c g X W) {i : Nat} {x : Str} (h : chkN c i x = true) : X.N[i]? = some x ∧ Loc X.env.scope x ∧ (X.fn x = true ∨ X.env.scope.names.lookup x = some .local) := by
  simp only [chkN, Bool.and_eq_true, Bool.or_eq_true, decide_eq_true_eq] at h
  obtain ⟨h1, h2⟩ := h
  rw [← ok.sc, ← ok.fn] at h2
  exact ⟨by rw [ok.N]; exact h1, h2.imp (fun z => z) fun z => z.1, h2.elim .inr fun z => .inl z.2⟩
theorem chkH_ok (ok : SOk n c g X W) {n0 : Str} {i : Nat} (hi : X.N[i]? = some n0) (hl : X.env.scope.names.lookup n0 = some .local) (ho : okName n0 = true) : ∀ {hn : List (Nat × Str)} {hs : List ExceptHandler}, chkH c n0 hn hs = true → ∃ l, Clauses X n0 hs l ∧ ClsL g X i l hn
  | [], hs, h => by
    cases hs with
    | nil => exact ⟨[], .nil, .nil⟩
    | cons _ _ => simp only [chkH, List.isEmpty, Bool.false_eq_true] at h
  | (k, t) :: r, hs, h => by
    unfold chkH at h
    split at h
    · rename_i x p1 n1 z j p2 n2 p3 w p4 k4 p5 p6 p7 hs
      simp only [Bool.and_eq_true, decide_eq_true_eq, Bool.not_eq_true'] at h
      obtain ⟨⟨⟨⟨⟨⟨⟨⟨h1, h2⟩, h3⟩, h4⟩, h5⟩, h6⟩, h7⟩, h8⟩, h9⟩ := h
      have e1 : n1 = n0 := eq_of_beq h1
      have e2 : n2 = n0 := eq_of_beq h2
      have e3 : z = t := eq_of_beq h3
      have e4 : w = "what" := eq_of_beq h4
      subst e1 e2 e3 e4
      obtain ⟨l, c1, c2⟩ := chkH_ok ok hi hl ho h9
      have hx : g.inf.cls[k]? = some x := by rw [ok.x.inf]; exact h5
      obtain ⟨C, hC⟩ := ok.er.at_ k x hx
      have hk : k ≠ 0 := by simpa using h6
      exact ⟨_, .cons ⟨ok.x.gl h7, (okName.of h8).1, .inl hC⟩ (suite_ok hi (.inl hl) (okName.of ho).1 (okName.of ho).2.1) c1, .cons (fun c' C' ic => ok.er.exm k C c' C' hk ⟨x, hx, hC⟩ ic) c2⟩
    · cases h
end
theorem isAdd_ok {o : Bop} (h : isAdd o = true) : o = .add ∨ o = .sub := by
  cases o <;> first | exact .inl rfl | exact .inr rfl | cases h
theorem noSl_ok {o i : Expr} {p1 : Pos} {env : PySem.Env} (h : noSl i = true) : ∀ v, assign (.Subscript o i p1) env v = (do
      let ov ← holding [v] (eval o env)
      let iv ← holding [v, ov] (eval i env)
      standAt p1
      holding [v, ov, iv] (setItem ov iv v)
      release [v, ov, iv] []) := fun v => by
  cases i <;> first | rfl | cases h
theorem both {X : Cx} {p : Stmt} {t : TS} {b : Bool} (h : PS X p t) : PSs X [p] t ∧ (b = false → ∀ q, [p] = [q] → PS X q t) := ⟨pss_one h, fun _ q e => by cases e; exact h⟩
theorem chkS_ok {n : Nat} {g : Gs} : ∀ (s : S) {c : Ck} {X : Cx} {W : WX} {ps : List Stmt}, SOk n c g X W → Lams g (collS s ps) → chkS c s ps = true → PSs X ps (tS g X W (exS g.cl s)) ∧ (isScope s = false → ∀ p, ps = [p] → PS X p (tS g X W (exS g.cl s)))
  | .ex e, c, X, W, ps, ok, lm, h => by
    unfold chkS at h
    split at h
    · simp only [Bool.and_eq_true] at h
      simp only [collS] at lm
      exact both (s_ex (chk_ok e (k := false) ok.x lm h.2) (noComp_ok h.1))
    · cases h
  | .asg gt e, c, X, W, ps, ok, lm, h => by
    unfold chkS at h
    split at h
    · simp only [collS] at lm
      exact both (asg_ok ok.x lm h)
    · cases h
  | .setI o i e, c, X, W, ps, ok, lm, h => by
    unfold chkS at h
    split at h
    · simp only [Bool.and_eq_true] at h
      rename_i x y p1 v p2
      obtain ⟨⟨⟨h1, h2⟩, h3⟩, h4, h5⟩ := h
      simp only [collS] at lm
      have sw : swapsWith v (some (.Subscript x y p1)) p2.line X.env = pure false := noComp_ok h1
      exact both (s_setI (chk_ok e (k := false) ok.x lm.l h3) (chk_ok o (k := false) ok.x lm.r.l h4) (chk_ok i (k := false) ok.x lm.r.r h5) sw (by rfl) (noSl_ok h2))
    · cases h
  | .setSl _ _ _ _, c, X, W, ps, ok, lm, h => by simp only [chkS, Bool.false_eq_true] at h
  | .aug i o e, c, X, W, ps, ok, lm, h => by
    unfold chkS at h
    split at h
    · simp only [Bool.and_eq_true, decide_eq_true_eq] at h
      obtain ⟨⟨⟨h1, rfl⟩, h3⟩, h4⟩ := h
      simp only [collS] at lm
      obtain ⟨q1, q2, q3⟩ := chkN_ok ok.x h3
      exact both (s_aug (isAdd_ok h1) ok.x.nd q1 q2 q3 (chk_ok e (k := false) ok.x lm h4))
    · cases h
  | .ret e, c, X, W, ps, ok, lm, h => by
    unfold chkS at h
    split at h
    · simp only [collS] at lm
      exact both (s_ret (chk_ok e (k := false) ok.x lm h))
    · cases h
  | .retN, c, X, W, ps, ok, lm, h => by
    unfold chkS at h
    split at h
    · exact both s_retN
    · cases h
  | .ife t a b, c, X, W, ps, ok, lm, h => by
    unfold chkS at h
    split at h
    · simp only [Bool.and_eq_true] at h
      simp only [collS] at lm
      exact both (s_if (chk_ok t (k := true) ok.x lm.l h.1) (chkS_ok a ok lm.r.l h.2.1).1 (chkS_ok b ok lm.r.r h.2.2).1)
    · cases h
  | .fr gt q es b, c, X, W, ps, ok, lm, h => by
    unfold chkS at h
    split at h
    · rename_i tg iter qs p
      simp only [Bool.and_eq_true] at h
      obtain ⟨⟨⟨h1, h2⟩, h3⟩, h4⟩ := h
      simp only [collS] at lm
      refine both (s_for ok.po ok.x.calm (chkQ_gen ok.x lm.l h2 (fun t x _ l z => chk_ok t (k := false) ok.x l z) fun xs l z => chkL_ok es ok.x l z) (chkG_ok gt ok.x h3) (chkS_ok b ok lm.r h4).1 fun x => ?_)
      cases iter <;> first | rfl | cases h1
    · cases h
  | .wh t b, c, X, W, ps, ok, lm, h => by
    unfold chkS at h
    split at h
    · simp only [Bool.and_eq_true] at h
      simp only [collS] at lm
      exact both (s_while ok.po (chk_ok t (k := true) ok.x lm.l h.1) (chkS_ok b ok lm.r h.2).1)
    · cases h
  | .brk, c, X, W, ps, ok, lm, h => by
    unfold chkS at h
    split at h
    · exact both s_brk
    · cases h
  | .cnt, c, X, W, ps, ok, lm, h => by
    unfold chkS at h
    split at h
    · exact both s_cnt
    · cases h
  | .skip, c, X, W, ps, ok, lm, h => by
    unfold chkS at h
    split at h
    · exact ⟨ss_nil, fun _ _ e => nomatch e⟩
    · exact both s_pass
    · cases h
  | .rais k e, c, X, W, ps, ok, lm, h => by
    unfold chkS at h
    split at h
    · rename_i x p1 a p2 p3
      simp only [Bool.and_eq_true, decide_eq_true_eq] at h
      obtain ⟨⟨⟨⟨h1, h2⟩, h3⟩, h4⟩, h5⟩ := h
      simp only [collS] at lm
      have hx : g.inf.cls[k]? = some x := by rw [ok.x.inf]; exact h1
      obtain ⟨C, hC⟩ := ok.er.at_ k x hx
      have ic : IsC X.mg g.inf k C := ⟨x, hx, hC⟩
      obtain ⟨fI, fd, ps', m1, m2, m3, m4⟩ := ok.er.mkE k C ic
      exact both (s_rais ok.x.calm ok.x.tk hx hC (ok.er.ec k C ic) m1 m2 m3 (ok.x.room.mono ok.n2) m4 (passes_call ok.x.tk fun _ _ _ _ z => z.elim) (ok.x.gl h2) (s_cons (chk_ok e (k := false) ok.x lm h5) s_nil h4) (okName.of h3).1 h4)
    · cases h
  | .tri b hn, c, X, W, ps, ok, lm, h => by
    unfold chkS at h
    split at h
    · rename_i body o n0 d p hds p2
      simp only [Bool.and_eq_true, decide_eq_true_eq] at h
      obtain ⟨⟨⟨⟨h1, h2⟩, h3⟩, h4⟩, h5⟩ := h
      simp only [collS] at lm
      obtain ⟨i, hi⟩ := List.mem_iff_getElem?.mp (List.contains_iff_mem.mp h1)
      have hi' : X.N[i]? = some n0 := by rw [ok.x.N]; exact hi
      have hl : X.env.scope.names.lookup n0 = some .local := by rw [ok.x.sc]; exact h2
      obtain ⟨l, c1, c2⟩ := chkH_ok ok hi' hl h3 h4
      exact both (s_tri ok.sk ok.fr ok.x.nd hi' hl ok.x.tk ok.er.ec (fun W' pn xe t o => (chkS_ok b (ok.tr t o) lm h5).1) c1 c2)
    · cases h
  | .seq a b, c, X, W, ps, ok, lm, h => by
    unfold chkS at h
    split at h
    · simp only [Bool.and_eq_true, Bool.not_eq_true'] at h
      simp only [collS] at lm
      exact ⟨ss_cons ((chkS_ok a ok lm.l h.1.2).2 h.1.1 _ rfl) (chkS_ok b ok lm.r h.2).1, fun _ _ e => nomatch e⟩
    · cases h
  | .scope k b, c, X, W, ps, ok, lm, h => by
    simp only [chkS] at h
    simp only [collS] at lm
    exact ⟨ss_scope ok.x.mo (chkS_ok b ok lm h).1, fun z => nomatch z⟩
end Ev

set_option Elab.async false
set_option linter.all false
set_option maxRecDepth 100000
/-! Ev22: calls, one in another -/
namespace Ev
open PySem L2
/-- the kinds of a def's names -/
def fnScB (N ps : List Str) (sc : Scope) : Bool :=
  decide (sc.kind = .function) && !sc.isCoroutine && !sc.isGenerator && decide N.Nodup && decide (N.take ps.length = ps) && ps.all (fun x => decide (sc.names.lookup x = some .local) || decide (sc.names.lookup x = some .cell)) && sc.names.all fun y => !decide (y.2 = .free)
theorem fnSc_ok {N ps : List Str} {sc : Scope} (h : fnScB N ps sc = true) : FnScope N ps sc := by
  simp only [fnScB, Bool.and_eq_true, Bool.or_eq_true, Bool.not_eq_true', decide_eq_true_eq, decide_eq_false_iff_not, List.all_eq_true] at h
  obtain ⟨⟨⟨⟨⟨⟨h1, h2⟩, h3⟩, h4⟩, h5⟩, h6⟩, h7⟩ := h
  exact ⟨h1, h2, h3, h4, h5, h6, h7⟩
/-- a lambda without parameters -/
def noArgs : Arguments → Bool
  | ⟨[], [], none, [], [], none, []⟩ => true
  | _ => false
abbrev ckF (inf : Inf) (lmf : Str → Bool) (fi : FnI) : Ck := ⟨fi.N, fi.scope, fi.name ++ ".<locals>.", inf, fun _ => true, lmf fi.name⟩
abbrev ckL (inf : Inf) (li : LamI) : Ck := ⟨li.N, li.scope, li.qual ++ "<lambda>" ++ ".<locals>.", inf, fun _ => false, false⟩
/-- the lambdas of a part are those of the list -/
def LamsIn (inf : Inf) (l : List LamX) : Prop := ∀ z ∈ l, ∃ li, inf.lams[z.l]? = some li ∧ li.args = z.args ∧ li.body = z.body ∧ li.scope = z.scope
structure FnGood (inf : Inf) (lmf : Str → Bool) (fn : Fn) (fi : FnI) : Prop where
  sc : fnScB fi.N fi.ps fi.scope = true
  ps : fn.ps = fi.ps.length
  n : fn.n = fi.N.length
  chk : chkS (ckF inf lmf fi) fn.body fi.body = true
  lams : LamsIn inf (collS fn.body fi.body)
structure LamGood (inf : Inf) (lm : Lam) (li : LamI) : Prop where
  sc : NdefX.nscB li.N li.ps li.fr li.scope = true
  ps : lm.ps = 0
  ps2 : li.ps = []
  n : lm.n = li.N.length
  args : noArgs li.args = true
  chk : chk (ckL inf li) false lm.body li.body = true
  lams : LamsIn inf (coll lm.body li.body)
structure ProgOk (P : Prog) (inf : Inf) (lmf : Str → Bool) : Prop where
  fn : ∀ (f : Nat) (fn : Fn) (fi : FnI), P.fns[f]? = some fn → inf.fns[f]? = some fi → FnGood inf lmf fn fi
  lam : ∀ (l : Nat) (lm : Lam) (li : LamI), P.lams[l]? = some lm → inf.lams[l]? = some li → LamGood inf lm li
/-- what is known of a def -/
def FnAll (K : PySem.W.Frag) (mg : Str → Option Value) (base : Heap) (T : List (Addr × Str)) (lm : Bool) (fi : FnI) : Prop :=
  ∃ (a : Addr) (oc : Value) (od : Option Addr) (osl : Array (Option Value)) (params : Arguments) (dV kV doc pm cdv ct : Value) (an : Option Addr), mg fi.name = some (.ref a) ∧ PySem.W.keepIn K (.ref a) = true ∧
    K.lookup a = some ⟨oc, od, .func (PySem.W.fnOf fi.name fi.name params fi.body fi.scope dV kV doc pm an cdv ct), osl⟩ ∧ PySem.W.codeIn K cdv fi.name = true ∧ Binds K (PySem.W.fnOf fi.name fi.name params fi.body fi.scope dV kV doc pm an cdv ct) fi.ps [] ∧
    (lm = true → ∃ c P, cdv = .ref c ∧ LamX.TabB base mg c P ∧ (P, fi.name ++ ".<locals>." ++ "<lambda>") ∈ T ∧ ∀ p ∈ T, p.1 = P → p.2 = fi.name ++ ".<locals>." ++ "<lambda>")
theorem FnAll.fact {K : PySem.W.Frag} {mg : Str → Option Value} {base : Heap} {T : List (Addr × Str)} {lm : Bool} {fi : FnI} (h : FnAll K mg base T lm fi) : FnFact K mg fi := by
  obtain ⟨a, oc, od, osl, params, dV, kV, doc, pm, cdv, ct, an, h1, h2, h3, h4, h5, _⟩ := h
  exact ⟨a, oc, od, osl, params, dV, kV, doc, pm, cdv, ct, an, h1, h2, h3, h4, h5⟩
structure Facts (P : Prog) (inf : Inf) (T : List (Addr × Str)) (lmf : Str → Bool) (prog : Program) (w : World) (K : PySem.W.Frag) (mg : Str → Option Value) (base : Heap) : Prop where
  pk : ProgOk P inf lmf
  ff : ∀ (f : Nat) (fi : FnI), inf.fns[f]? = some fi → FnAll K mg base T (lmf fi.name) fi
  fre : ∀ x ∈ inf.free, mg x = none
  num : ∀ x k, (x, k) ∈ inf.nums → ∃ t, mg x = some (.int k t)
  gcd : inf.gcd = true → mg "gcd" = some (.builtin "math.gcd")
  er : ErrsOk inf prog w K mg base
abbrev gN (P : Prog) (inf : Inf) (T : List (Addr × Str)) (n : Nat) : Gs := ⟨T, inf, callF P n⟩
section
variable {K : PySem.W.Frag} {mg : Str → Option Value} {g : Gs} {ρ : List Addr} {H : Hp} {Q : VK} {E : XK} {st st1 : St}
theorem leave_ok {kp : Bool} {x : Ev.X} (s : StRel K ρ ρ H st.objs) (m : Ev.Mono st.enter st1) (h : PostX K mg g ρ H (leaveX kp st x st1) Q E) :
    ∀ ρ' H' v, Ext K ρ H ρ' H' → LamX.Tabs g.T H' → ResX K ρ' H H' st1.objs x v → Q v H' := fun ρ' H' v ex t r => by
  unfold leaveX at h
  split at h
  · rename_i c
    simp only [Bool.and_eq_true] at c
    split at h
    · rename_i y e
      exact h ρ H' ex.cut t v (X.res_ok s.len ex.pre ex.new (lo_of s m c.2) r e)
    · exact h ρ' H' ex t v r
  · exact h ρ' H' ex t v r
theorem leave_rs {c : Nat} {d : D} (s : StRel K ρ ρ H st.objs) (m : Ev.Mono st.enter st1) (h : PostX K mg g ρ H (leaveR st c d st1) Q E) :
    ∀ ρ' H' dx wv C, Ext K ρ H ρ' H' → Sr K g.T ρ' H' st1.objs → Rep K ρ' ρ' H' d wv → Nw H dx → H' dx = some (.xd [("what", wv)]) → IsC mg g.inf c C → E (.ref C) (some dx) H' := fun ρ' H' dx wv C ex sr r nw hx ic => by
  unfold leaveR at h
  split at h
  · rename_i q
    simp only [Bool.and_eq_true] at q
    have ct : ρ'.take st.objs.length = ρ := by
      obtain ⟨t, rfl⟩ := ex.pre
      rw [← s.len]; simp
    have r2 := Rep.low (α' := ρ) (fun a z => ex.pre.subset z) q.2 r
    rw [ct] at r2
    exact h ρ H' dx wv C ex.cut ⟨sr.st.back (lo_of s m q.1) s.len ex.pre, sr.tab⟩ r2 nw hx ic
  · exact h ρ' H' dx wv C ex sr r nw hx ic
end
theorem Around.guards_deeper {A : Around} {e : PySem.Env} (h : A.guards = some []) : (A.deeper e).guards = some [] := h
section
variable {P : Prog} {inf : Inf} {T : List (Addr × Str)} {lmf : Str → Bool} {prog : Program} {w : World} {K : PySem.W.Frag} {mg : Str → Option Value} {base : Heap}
theorem slot_start {N : List Str} {vs : List V} {i : Nat} : NdefX.slotAt (L2.start N vs) i = vs[i]? := by
  unfold NdefX.slotAt L2.start
  by_cases h : i < vs.length
  · rw [List.getElem?_append_left (by simpa using h), List.getElem?_map, List.getElem?_eq_getElem h]
    rfl
  · rw [List.getElem?_append_right (by simpa using h), List.getElem?_eq_none (l := vs) (by omega), List.getElem?_replicate]
    split <;> rename_i z <;> split at z <;> first | (cases z; rfl) | cases z
/-- the frame of a def at its entry -/
theorem env_start {g : Gs} {X : Cx} {N : List Str} {ρ : List Addr} {H : Hp} {as : List Sl} {vs : List V} {n p : Nat} (a : ArgsR X.K X.mg g.inf ρ H X.s_0.heap X.fs as vs) (hH : X.H_0 = H) (hx : X.ex = []) (hp : vs.length = p) (hn : n = N.length) (hl : p ≤ n) :
    EnvRel g X ρ H (L2.start N vs) (as ++ List.replicate (n - p) .no) := by
  refine ⟨?_, fun i z e => ?_, .inl hx⟩
  · unfold L2.start
    simp only [List.length_append, List.length_replicate, List.length_map, a.len]
    omega
  · by_cases h : i < as.length
    · rw [List.getElem?_append_left h] at e
      rw [slot_start, hH]
      exact a.at_ i z e
    · rw [List.getElem?_append_right (by omega), List.getElem?_replicate] at e
      split at e
      · cases e; trivial
      · cases e
theorem LamsIn.at_ {n : Nat} {l : List LamX} (h : LamsIn inf l) : Lams (gN P inf T n) l := h
theorem sok_fn {n : Nat} {fi : FnI} {fn : Fn} {a : Addr} {cdv : Value} {A : Around} {outer : List PySem.Env} {s : Shared} {H : Hp} {E : XK} (F : Facts P inf T lmf prog w K mg base) (fg : FnGood inf lmf fn fi) (ih : ClOk (gN P inf T n) prog w K mg base (n + 2))
    (hr : Room (n + 2) (A.deeper (PyProof.Rows.envOfC fi.name fi.scope s.heap.objs.size a cdv))) (hg : A.guards = some [])
    (tb : lmf fi.name = true → ∃ c P, cdv = .ref c ∧ LamX.TabB base mg c P ∧ (P, fi.name ++ ".<locals>." ++ "<lambda>") ∈ T ∧ ∀ p ∈ T, p.1 = P → p.2 = fi.name ++ ".<locals>." ++ "<lambda>") :
    SOk (n + 2) (ckF inf lmf fi) (gN P inf T n) (cxOf (L2.CX prog w) prog w K mg base fi.N fi.name fi.scope a cdv A outer s H E) (fun cls d _ H' => E cls d H') where
  x := ⟨rfl, (fnSc_ok fg.sc).nd, (fnSc_ok fg.sc).kind, rfl, fun _ => rfl, rfl, rfl, hr, hg, (by have := hr.un; show (A.deeper _).units + 100 < cLine; omega), takes_of rfl rfl rfl rfl, ih, mono_callF P n, fun f fi h => (F.ff f fi h).fact, F.fre, F.num, F.gcd, fun z => by
    obtain ⟨c, P', e, t1, t2, t3⟩ := tb z
    exact ⟨c, P', e, t1, t2, t3⟩, rfl⟩
  po := passes_of rfl
  sk := rfl
  fr := rfl
  er := F.er
  n2 := by omega
theorem cl_fn {n : Nat} (F : Facts P inf T lmf prog w K mg base) (ih : ClOk (gN P inf T n) prog w K mg base (n + 2)) {A : Around} {outer : List PySem.Env} {s : Shared} {H : Hp} {ρ : List Addr} {st : St} {f : Nat} {a : Addr} {as : List Sl} {vs : List V} {us : List Value} {Q : VK} {E : XK}
    (hr : Room (n + 3) A) (hg : A.guards = some []) (e0 : L2.Env0 prog w K mg base A outer s H) (sr : Sr K T ρ H st.objs) (ca : CalAt K mg inf ρ H s.heap (frs outer) (.fn f) a) (ar : ArgsR K mg inf ρ H s.heap (frs outer) as vs) (rv : Vals vs us)
    (h : PostX K mg (gN P inf T (n + 1)) ρ H (callF P (n + 1) (.fn f) as st) Q E) : codeAny (model prog w) A (.call (.ref a) ⟨us, []⟩) (CR (L2.CX prog w) outer prog w H s Q E) s := by
  obtain ⟨fi, hf, hm⟩ := ca
  simp only [callF] at h
  cases ep : P.fns[f]? with
  | none => rw [ep] at h; exact h.elim
  | some fn =>
    rw [ep] at h
    simp only at h
    split at h
    · rename_i hl
      have fg := F.pk.fn f fn fi ep hf
      obtain ⟨a', oc, od, osl, params, dV, kV, doc, pm, cdv, ct, an, k1, k2, k3, k4, k5, k6⟩ := F.ff f fi hf
      rw [hm] at k1
      cases k1
      have S := fnSc_ok fg.sc
      have lv : vs.length = fi.ps.length := by rw [← ar.len, hl, fg.ps]
      have KX : K.In s.heap := e0.mod.kin.keeps fun b o e => (e0.bs b o e).1
      have hb := k5 s us KX (by rw [List.append_nil, ← rv.length]; exact lv)
      rw [List.append_nil] at hb
      have hpl : fi.ps.length ≤ fi.N.length := by have := congrArg List.length S.pre; rw [List.length_take] at this; omega
      refine LamX.run_ofS k3 k4 S (k := n + 2) hr e0 hb rv lv fun hrb => ?_
      have so := sok_fn (outer := outer) (s := s) (H := H) (E := E) F fg ih hrb hg k6
      refine ⟨_, (chkS_ok fn.body so fg.lams.at_ fg.chk).1, ρ, as ++ List.replicate (fn.n - fn.ps) .no, st.enter, ⟨env_start ar rfl rfl (by rw [lv, fg.ps]) fg.n (by rw [fg.ps, fg.n]; exact hpl), sr⟩, ?_⟩
      have mo := mono_exS (mono_callF P n) fn.body (as ++ List.replicate (fn.n - fn.ps) .no) st.enter
      cases eb : exS (callF P n) fn.body (as ++ List.replicate (fn.n - fn.ps) .no) st.enter with
      | nx env' s1 =>
        rw [eb] at h mo
        exact fun ρ' σ' H' ex c => leave_ok sr.st mo h ρ' H' .non ex c.sr.tab ⟨c.sr.st, by simp only [Rep]⟩
      | rt x s1 =>
        rw [eb] at h mo
        exact fun ρ' H' v ex t r => leave_ok sr.st mo h ρ' H' v ex t r
      | rs c d env' s1 =>
        rw [eb] at h mo
        exact fun ρ' σ' H' dx wv C ex sr' r nw hx ic => leave_rs sr.st mo h ρ' H' dx wv C ex sr' r nw hx ic
      | br env' s1 => rw [eb] at h; exact h.elim
      | ct env' s1 => rw [eb] at h; exact h.elim
      | bad => rw [eb] at h; exact h.elim
    · exact h.elim
theorem noArgs_eq {a : Arguments} (h : noArgs a = true) : a = ⟨[], [], none, [], [], none, []⟩ := by
  unfold noArgs at h
  split at h
  · rfl
  · cases h
theorem slot_startF {N : List Str} {vs : List (Option V)} {i : Nat} : NdefX.slotAt (NdefX.startF N [] vs) i = NdefX.slotAt vs i := by
  unfold NdefX.slotAt NdefX.startF
  simp only [List.map_nil, List.nil_append]
  by_cases h : i < vs.length
  · rw [List.getElem?_append_left h]
  · rw [List.getElem?_append_right (by omega), List.getElem?_eq_none (l := vs) (by omega), List.getElem?_replicate]
    split <;> rename_i z <;> split at z <;> first | (cases z; rfl) | cases z
theorem cl_lam {n : Nat} (F : Facts P inf T lmf prog w K mg base) (ih : ClOk (gN P inf T n) prog w K mg base (n + 2)) {A : Around} {outer : List PySem.Env} {s : Shared} {H : Hp} {ρ : List Addr} {st : St} {l : Nat} {ws : List Sl} {a : Addr} {as : List Sl} {vs : List V} {us : List Value} {Q : VK} {E : XK}
    (hr : Room (n + 3) A) (hg : A.guards = some []) (e0 : L2.Env0 prog w K mg base A outer s H) (sr : Sr K T ρ H st.objs) (ca : CloAt K mg inf ρ ρ H s.heap H (frs outer) l ws a) (ar : ArgsR K mg inf ρ H s.heap (frs outer) as vs) (rv : Vals vs us)
    (h : PostX K mg (gN P inf T (n + 1)) ρ H (callF P (n + 1) (.lam l ws) as st) Q E) : codeAny (model prog w) A (.call (.ref a) ⟨us, []⟩) (CR (L2.CX prog w) outer prog w H s Q E) s := by
  obtain ⟨li, cl, c', pm, ctv, cs, h1, h2, h3, h4, h5, h6, h7, h8⟩ := ca
  simp only [callF] at h
  cases ep : P.lams[l]? with
  | none => rw [ep] at h; exact h.elim
  | some lm =>
    rw [ep] at h
    simp only at h
    split at h
    · rename_i hl
      have lg := F.pk.lam l lm li ep h1
      obtain ⟨qual, N, ps, fr, args, body, scope⟩ := li
      have e1 : ps = [] := lg.ps2
      have e2 : args = _ := noArgs_eq lg.args
      subst e1 e2
      rw [lg.ps] at hl
      obtain rfl : as = [] := List.length_eq_zero_iff.mp hl
      have z0 := ar.len
      obtain rfl : vs = [] := List.length_eq_zero_iff.mp z0.symm
      have z1 := rv.length
      obtain rfl : us = [] := List.length_eq_zero_iff.mp z1.symm
      have S := NdefX.nscope_by lg.sc
      have lim : s.heap.NoLimit := e0.mod.nolimit.keeps fun b o e => (e0.bs b o e).1
      obtain ⟨⟨oc, os, t, hoc, hdc, hvc⟩, _, _⟩ := e0.hok c' _ h5
      refine PySem.W.kla_callFunE hr.depth h2 rfl S.co S.gen rfl ⟨c', oc, os, t, rfl, hoc, hdc, hvc⟩ ?_
      have hbind : bindArgs (PySem.W.kla_fn "<lambda>" (qual ++ "<lambda>") ⟨[], [], none, [], [], none, []⟩ body scope cl pm (.ref c') ctv) ⟨[], []⟩ = pure [] := rfl
      rw [hbind]
      refine wpAny_pure (wpAny_newFunctionEnv S.nocell (fun y hy => absurd hy (by simp)) (fun h₁ hns hsb => ⟨lim.fresh _ hsb, ?_⟩) S.kind)
      have kp : ∀ b o, s.heap.get? b = some o → h₁.get? b = some o := fun b o e => hsb.extBut b o (Nat.ne_of_lt (Heap.lt_size e)) (Heap.get?_push_of_some _ e)
      have J := NdefX.inv_startN (CX := L2.CX prog w) (P := prog) (w := w) (E := E) (f := a) (N := N) (tk := s.toks + ([] : List (Str × Value)).length) (F := ⟨"<lambda>", qual ++ "<lambda>", ⟨[], [], none, [], [], none, []⟩, [], scope, cl, c'⟩) (us := []) (vs := []) S hr.hd e0 rfl .nil h6 hns kp
      have ok : XOk (n + 2) (ckL inf ⟨qual, N, [], fr, ⟨[], [], none, [], [], none, []⟩, body, scope⟩) (gN P inf T n) (NdefX.ncx (L2.CX prog w) prog w K mg base N ⟨"<lambda>", qual ++ "<lambda>", ⟨[], [], none, [], [], none, []⟩, [], scope, cl, c'⟩ a A outer s H E) (fun cls d _ H' => E cls d H') :=
        ⟨rfl, S.nd, S.kind, rfl, fun _ => rfl, rfl, rfl, hr.deeper _, hg, (by have := (hr.deeper (NdefX.envF ⟨"<lambda>", qual ++ "<lambda>", ⟨[], [], none, [], [], none, []⟩, [], scope, cl, c'⟩ a s.heap.objs.size)).un; show (A.deeper _).units + 100 < cLine; omega), takes_of rfl rfl rfl rfl, ih, mono_callF P n, fun f fi h => (F.ff f fi h).fact, F.fre, F.num, F.gcd, (fun z => nomatch z), rfl⟩
      have run := chk_ok lm.body (k := false) ok lg.lams.at_ lg.chk
      refine PySem.W.kla_codeExpr (wpAny_mono (run.run [] _ _ H Q J ⟨ρ, ws ++ List.replicate (lm.n - ws.length) .no, st.enter, ⟨⟨?_, fun i z e => ?_, .inl rfl⟩, sr⟩, ?_⟩) (fun v s' hq => ?_) fun e s' hq => hq)
      · have pl := congrArg List.length S.pre
        have n1 := lg.n
        have n2 := h6.len
        simp only [List.length_take, List.length_append, List.length_nil] at pl
        simp only [NdefX.startF, List.length_append, List.length_map, List.length_nil, List.length_replicate]
        simp only at n1
        omega
      · rw [slot_startF]
        by_cases hi : i < ws.length
        · rw [List.getElem?_append_left hi] at e
          have q := h8 i z e
          cases z with
          | no => exact q
          | val d => exact q
          | fn f => exact q
          | lam l ws => exact q.elim
        · rw [List.getElem?_append_right (by omega), List.getElem?_replicate] at e
          split at e
          · cases e; trivial
          · cases e
      · have mo := mono_ev (mono_callF P n) lm.body (ws ++ List.replicate (lm.n - ws.length) .no) st.enter
        simp only [List.nil_append, List.length_nil, Nat.sub_zero] at h
        cases eb : ev (callF P n) lm.body (ws ++ List.replicate (lm.n - ws.length) .no) st.enter with
        | ok x s1 =>
          rw [eb] at h mo
          exact fun ρ' H' ex t v r => leave_ok sr.st mo h ρ' H' v ex t r
        | rs c d s1 =>
          rw [eb] at h mo
          exact fun ρ' H' dx wv C ex sr' r nw hx ic => leave_rs sr.st mo h ρ' H' dx wv C ex sr' r nw hx ic
        | bad => rw [eb] at h; exact h.elim
      · obtain ⟨w', H', J', rv, q⟩ := hq
        exact ⟨w', H', J'.os, J'.bare, J'.base, J'.hok, rv, q⟩
    · exact h.elim
theorem cl_ok (F : Facts P inf T lmf prog w K mg base) : ∀ n, ClOk (gN P inf T n) prog w K mg base (n + 2)
  | 0 => fun A outer s H ρ st c a as vs us Q E _ _ _ _ _ _ _ h => by
    simp only [callF] at h
    exact h.elim
  | n + 1 => fun A outer s H ρ st c a as vs us Q E hr hg e0 sr ca ar rv h => by
    cases c with
    | fn f => exact cl_fn F (cl_ok F n) hr hg e0 sr ca ar rv h
    | lam l ws => exact cl_lam F (cl_ok F n) hr hg e0 sr ca ar rv h
end
end Ev

set_option Elab.async false
set_option linter.all false
set_option maxRecDepth 100000
/-! Ev23: the law's own call -/
namespace Ev
open PySem L2 PySem.Spec PyProof.Rows
/-- what is tracked at the law's entry: the tables, the script -/
def entryH (K : PySem.W.Frag) (tabs : List Addr) (a : Addr) (o : Obj) (xs : List V) : Hp := fun b =>
  if b ∈ tabs then some (.tbl #[]) else if b = a then (if (K.lookup a).isSome then none else some (.frz o (.lst xs))) else none
/-- the law's entry -/
structure Entry (w : World) (K : PySem.W.Frag) (mg mb : Str → Option Value) (cs : List (Addr × Addr)) (a : Addr) (vs : List Value) (ns : List Int) (s : Shared) : Prop where
  kin : K.In s.heap
  glob : s.heap.Ns mainGlobals mg
  blt : s.heap.Ns builtinsNs mb
  boot : ∀ x : Str, x ≠ "__name__" → mb x = bootBuiltins x
  lim : s.heap.NoLimit
  gens : s.gens = #[]
  tab : ∀ p ∈ cs, s.heap.get? p.2 = some { cls := .none, data := .fields #[] }
  out : ∀ p ∈ cs, K.lookup p.2 = none
  hd : ∀ p ∈ cs, PySem.W.CodeHd s.heap p.1 p.2
  bm : ∃ (bm : Addr) (ob : Obj), mg "__builtins__" = some (.ref bm) ∧ bm ≠ builtinsNs ∧ s.heap.get? bm = some ob ∧ ob.cls = .type "module" ∧ ob.dict = some builtinsNs ∧ ob.data = .plain
  scr : s.heap.get? a = some { cls := .type "list", data := .seq vs.toArray }
  intsA : IntsAre vs ns
  len : ns.length ≤ sizeLine
section
variable {P : Program} {w : World} {K : PySem.W.Frag} {mg mb : Str → Option Value} {cs : List (Addr × Addr)} {a fa : Addr} {vs : List Value} {ns : List Int} {s : Shared}
abbrev eH (K : PySem.W.Frag) (cs : List (Addr × Addr)) (a : Addr) (vs : List Value) (ns : List Int) : Hp := entryH K (cs.map (·.2)) a { cls := .type "list", data := .seq vs.toArray } (ns.map V.int)
theorem Entry.isTab (e : Entry w K mg mb cs a vs ns s) {b : Addr} (h : b ∈ cs.map (·.2)) : s.heap.get? b = some { cls := .none, data := .fields #[] } := by
  obtain ⟨p, hp, rfl⟩ := List.mem_map.mp h
  exact e.tab p hp
theorem Entry.scrNo (e : Entry w K mg mb cs a vs ns s) : a ∉ cs.map (·.2) := fun h => by
  have q := (e.isTab h).symm.trans e.scr
  have z := congrArg Obj.data (Option.some.inj q)
  cases z
theorem Entry.cases (e : Entry w K mg mb cs a vs ns s) {b : Addr} {u : HO} (h : eH K cs a vs ns b = some u) : (b ∈ cs.map (·.2) ∧ u = .tbl #[]) ∨ (b = a ∧ K.lookup a = none ∧ u = .frz { cls := .type "list", data := .seq vs.toArray } (.lst (ns.map V.int))) := by
  unfold eH entryH at h
  split at h
  · cases h; exact .inl ⟨by assumption, rfl⟩
  · split at h
    · split at h
      · cases h
      · rename_i hb hk
        cases h
        exact .inr ⟨hb, by cases q : K.lookup a with
          | none => rfl
          | some z => rw [q] at hk; exact (hk rfl).elim, rfl⟩
    · cases h
/-- what is no list and no empty table is not tracked -/
theorem Entry.unt (e : Entry w K mg mb cs a vs ns s) {b : Addr} {o : Obj} (h : s.heap.get? b = some o) (h1 : ∀ ys n, o.data ≠ .seq ys n) (h2 : o.data ≠ .fields #[]) : eH K cs a vs ns b = none := by
  cases q : eH K cs a vs ns b with
  | none => rfl
  | some u =>
    exfalso
    rcases e.cases q with ⟨m, _⟩ | ⟨rfl, _, _⟩
    · have z := h.symm.trans (e.isTab m)
      exact h2 (congrArg Obj.data (Option.some.inj z))
    · have z := h.symm.trans e.scr
      exact h1 _ _ (congrArg Obj.data (Option.some.inj z))
theorem Entry.untD (e : Entry w K mg mb cs a vs ns s) {b : Addr} {o : Obj} {es : Array DictEntry} {ep : Nat} (h : s.heap.get? b = some o) (d : o.data = .dict es ep) : eH K cs a vs ns b = none :=
  e.unt h (fun ys n z => nomatch d.symm.trans z) fun z => nomatch d.symm.trans z
theorem Entry.nsB (e : Entry w K mg mb cs a vs ns s) {b : Addr} {m : Str → Option Value} (h : s.heap.Ns b m) : (hidT s.heap (eH K cs a vs ns)).Ns b m := by
  obtain ⟨o, es, ep, h1, h2, h3⟩ := h
  exact ⟨o, es, ep, hidT_get h1 (e.untD h1 h2), h2, h3⟩
theorem Entry.kinB (e : Entry w K mg mb cs a vs ns s) : K.In (hidT s.heap (eH K cs a vs ns)) := fun b o h => by
  refine hidT_get (e.kin b o h) ?_
  cases q : eH K cs a vs ns b with
  | none => rfl
  | some u =>
    exfalso
    rcases e.cases q with ⟨m, _⟩ | ⟨rfl, hk, _⟩
    · obtain ⟨p, hp, rfl⟩ := List.mem_map.mp m
      exact nomatch h.symm.trans (e.out p hp)
    · exact nomatch h.symm.trans hk
theorem Entry.tabB (e : Entry w K mg mb cs a vs ns s) {p : Addr × Addr} (hp : p ∈ cs) : LamX.TabB (hidT s.heap (eH K cs a vs ns)) mg p.1 p.2 := by
  have ht := e.tab p hp
  obtain ⟨og, esg, epg, g1, g2, _⟩ := e.glob
  refine ⟨?_, ?_, fun z => ?_⟩
  · obtain ⟨o, us, file, tf, flags, tg, inF, text, tt, e1, r1, r2, r3, rest⟩ := e.hd p hp
    refine ⟨o, us, file, tf, flags, tg, inF, text, tt, hidT_get e1 (e.unt e1 (fun ys n z => nomatch r2.symm.trans z) fun z => ?_), r1, r2, r3, rest⟩
    have z2 := r2.symm.trans z
    cases z2
    simp at r3
  · obtain ⟨bm, ob, b1, b2, b3, b4, b5, b6⟩ := e.bm
    refine ⟨bm, ob, b1, b2, fun q => ?_, fun q => ?_, hidT_get b3 (e.unt b3 (fun ys n z => nomatch b6.symm.trans z) fun z => nomatch b6.symm.trans z), b4, b5, b6⟩
    · subst q
      have z := b3.symm.trans g1
      cases z
      exact nomatch b6.symm.trans g2
    · rw [q] at b3
      have z := b3.symm.trans ht
      cases z
      cases b6
  · rw [z] at g1
    have q := g1.symm.trans ht
    cases q
    cases g2
theorem Entry.hok (e : Entry w K mg mb cs a vs ns s) : HOk P w (eH K cs a vs ns) s.heap := fun b u h => by
  rcases e.cases h with ⟨m, rfl⟩ | ⟨rfl, _, rfl⟩
  · exact e.isTab m
  · exact ⟨e.scr, by rw [List.length_map]; exact e.len, vs, _, vals_ints e.intsA, e.scr⟩
theorem Entry.env0 (e : Entry w K mg mb cs a vs ns s) : L2.Env0 P w K mg (hidT s.heap (eH K cs a vs ns)) callerA [] s (eH K cs a vs ns) := by
  obtain ⟨mc, l1, l2⟩ := e.lim
  exact ⟨rfl, ⟨e.kinB, e.nsB e.glob, ⟨mb, e.nsB e.blt, e.boot⟩, ⟨mc, e.nsB l1, l2⟩⟩, fun b o h => of_hidT h, Nat.le_of_eq (hidT_size _ _), trivial, (fun b h => nomatch (show b ∈ ([] : List Addr) from h)), e.hok, .of_eq e.gens⟩
theorem Entry.tbl (e : Entry w K mg mb cs a vs ns s) {p : Addr × Addr} (hp : p ∈ cs) : eH K cs a vs ns p.2 = some (.tbl #[]) := by
  unfold eH entryH
  exact if_pos (List.mem_map.mpr ⟨p, hp, rfl⟩)
theorem Entry.scrAt (e : Entry w K mg mb cs a vs ns s) : ScrAt K (eH K cs a vs ns) a (ns.map V.int) := by
  cases hk : K.lookup a with
  | none =>
    refine .inl ⟨{ cls := .type "list", data := .seq vs.toArray }, ?_⟩
    unfold eH entryH
    rw [if_neg e.scrNo, if_pos rfl, hk]
    rfl
  | some o =>
    have q := (e.kin a o hk).symm.trans e.scr
    cases q
    exact .inr ⟨_, vs.toArray, _, hk, rfl, rfl, rfl, by rw [List.size_toArray, e.intsA.length]; exact e.len, by simpa using vals_ints e.intsA⟩
/-- the law's call, once it is shown from the entry -/
theorem Entry.run (e : Entry w K mg mb cs a vs ns s)
    (h : codeAny (model P w) callerA (.call (.ref fa) ⟨[.ref a], []⟩) (CR (L2.CX P w) [] P w (eH K cs a vs ns) s (fun v _ => v = .bl true) fun _ _ _ => False) s) :
    codeAny (model P w) callerA (.call (.ref fa) ⟨[.ref a], []⟩) (fun r s' => r = .ok (.ret (.bool true)) ∧ OldK s.heap s'.heap ∧ s'.os = s.os ∧ AllBare s'.gens) s := by
  refine codeAny_mono h fun r s' q => ?_
  cases r with
  | error x =>
    obtain ⟨_, _, _, _, _, _, _, _, _, _, _, _, z⟩ := q
    exact z.elim
  | ok fl =>
    cases fl with
    | next => exact False.elim q
    | brk => exact False.elim q
    | cont => exact False.elim q
    | ret u =>
      obtain ⟨v, H', os, bare, un, hok', rv, q⟩ := q
      have q' : v = .bl true := q
      subst q'
      obtain rfl : u = Value.bool true := rv
      have gone : ∀ b o, b ∉ cs.map (·.2) → s.heap.get? b = some o → s'.heap.get? b = some o := fun b o nb eo => by
        cases q : eH K cs a vs ns b with
        | none => exact un.keep b o eo q (fun z => nomatch (show b ∈ ([] : List Addr) from z)) (fun z => nomatch z)
        | some u =>
          rcases e.cases q with ⟨m, _⟩ | ⟨rfl, _, rfl⟩
          · exact absurd m nb
          · have z2 := un.frzs _ _ _ q
            obtain ⟨e2, _⟩ := hok' _ _ z2
            have z := eo.symm.trans e.scr
            cases z
            exact e2
      have more : ∀ p ∈ cs, ∃ m : Array Value, s'.heap.get? p.2 = some { cls := .none, data := .fields m } := fun p hp => by
        obtain ⟨m, z⟩ := un.tbls p.2 #[] (e.tbl hp)
        exact ⟨_, hok' p.2 _ z⟩
      refine ⟨rfl, ⟨fun b o eo => ?_, fun b o eo => ?_⟩, os, bare⟩
      · by_cases hb : b ∈ cs.map (·.2)
        · obtain ⟨p, hp, rfl⟩ := List.mem_map.mp hb
          obtain ⟨m, hm⟩ := more p hp
          have z := eo.symm.trans (e.tab p hp)
          cases z
          exact .inr (.inl ⟨((e.hd p hp).tab (e.tab p hp)).isCodeTable, rfl, #[], m, rfl, by rw [Array.empty_append]; exact hm⟩)
        · exact .inl (gone b o hb eo)
      · by_cases hb : b ∈ cs.map (·.2)
        · obtain ⟨p, hp, rfl⟩ := List.mem_map.mp hb
          obtain ⟨m, hm⟩ := more p hp
          exact ⟨_, hm⟩
        · exact ⟨o, gone b o hb eo⟩
end
end Ev

set_option Elab.async false
set_option linter.all false
set_option maxRecDepth 100000
/-! Ev24: a law's text as data; from what the head tells to the law -/
namespace Ev
open PySem L2 PySem.Spec PyProof.Rows
/-! ### plain parameters -/
theorem zip_lookup : ∀ {ns : List Str} {us : List Value}, ns.Nodup → us.length = ns.length → (ns.filterMap fun n => ((ns.zip us).lookup n).map (n, ·)) = ns.zip us
  | [], _, _, _ => by simp
  | n :: ns, [], _, h => by simp at h
  | n :: ns, u :: us, nd, h => by
    have nn := (List.nodup_cons.mp nd).1
    have ih := zip_lookup (List.nodup_cons.mp nd).2 (by simpa using h)
    rw [List.zip_cons_cons, List.filterMap_cons]
    simp only [List.lookup, beq_self_eq_true, Option.map_some]
    congr 1
    refine Eq.trans ?_ ih
    have gen : ∀ l : List Str, (∀ m ∈ l, m ≠ n) → (l.filterMap fun m => ((match m == n with
      | true => some u
      | false => (ns.zip us).lookup m)).map (m, ·)) = l.filterMap fun m => ((ns.zip us).lookup m).map (m, ·) := by
      intro l
      induction l with
      | nil => intro _; rfl
      | cons m l ihl =>
        intro h
        have e : (m == n) = false := by simpa using h m (List.mem_cons_self ..)
        rw [List.filterMap_cons, List.filterMap_cons, ihl fun m hm => h m (List.mem_cons_of_mem _ hm), e]
    exact gen ns fun m hm e => nn (e ▸ hm)
theorem zip_some : ∀ {ns : List Str} {us : List Value}, us.length = ns.length → ∀ n ∈ ns, ((ns.zip us).lookup n).isSome = true
  | [], _, _, n, h => nomatch h
  | m :: ns, [], h, _, _ => by simp at h
  | m :: ns, u :: us, h, n, hn => by
    rw [List.zip_cons_cons]
    simp only [List.lookup]
    split
    · rfl
    · rename_i e
      rcases List.mem_cons.mp hn with rfl | hn
      · simp at e
      · exact zip_some (by simpa using h) n hn
theorem bind_plain {name qual : Str} {as : List PySem.Arg} {body : List Stmt} {scope : Scope} {kV doc pm cdv ct : Value} {an : Option Addr} {us : List Value} (nd : (as.map (·.arg)).Nodup) (hl : us.length = as.length) :
    bindArgs (PySem.W.fnOf name qual ⟨[], as, none, [], [], none, []⟩ body scope .none kV doc pm an cdv ct) ⟨us, []⟩ = pure ((as.map (·.arg)).zip us) := by
  have z : seqItems? Value.none = pure none := rfl
  have hs := zip_some (ns := as.map (·.arg)) (us := us) (by simpa using hl)
  have hm : ((as.map (·.arg)).filter fun n => ((as.map (·.arg)).zip us).lookup n |>.isNone) = [] := by
    refine List.filter_eq_nil_iff.mpr fun n hn => ?_
    have := hs n hn
    cases q : ((as.map (·.arg)).zip us).lookup n with
    | none => rw [q] at this; cases this
    | some v => simp
  have lk := zip_lookup nd (us := us) (by simpa using hl)
  have tk : List.take as.length (as.map (·.arg)) = as.map (·.arg) := List.take_of_length_le (by simp)
  rw [List.filterMap_map] at lk
  unfold bindArgs
  simp [z, hl, tk, hm, PySem.W.fnOf]
  exact congrArg pure lk
def plainPs (p : Arguments) (ps : List Str) : Bool := match p with
  | ⟨[], as, none, [], [], none, []⟩ => decide (as.map (·.arg) = ps) && decide ps.Nodup
  | _ => false
theorem binds_plain {K : PySem.W.Frag} {x qual : Str} {params : Arguments} {body : List Stmt} {scope : Scope} {kws : List (Str × V)} {f : Addr} {fd : FuncData} {ps : List Str} (F : FunD K x qual params body scope [] kws f fd) (h : plainPs params ps = true) : Binds K fd ps [] := by
  unfold plainPs at h
  split at h
  · rename_i as
    simp only [Bool.and_eq_true, decide_eq_true_eq] at h
    obtain ⟨rfl, nd⟩ := h
    exact F.bindsN fun kV doc pm an cdv ct us hl => bind_plain nd (by simpa using hl)
  · cases h
/-! ### the errors' classes -/
def oexB (K : PySem.W.Frag) (C : Addr) : Bool := (match K.lookup C with
  | some ⟨.type t, _, .cls cd, sl⟩ => (match cd.mro, sl.toList with
    | .ref C' :: bm, [_, _, _, _, some (.builtin n), _] => t == "type" && C' == C && n == "ValueError.__new__" && !cd.hasDel && cd.hasDict && PySem.HandSPX.refsVE bm
    | _, _ => false)
  | _ => false) && He.eqO (PySem.W.findIn K (.ref C) "__setattr__") (some (some (.builtin "object.__setattr__"))) && decide (PySem.W.subIn K (.ref C) (.type "BaseException") = some true) && decide (PySem.W.typeIn K (.ref C) = some (.type "type")) && PySem.W.keepIn K (.ref C)
theorem oexB_ok {K : PySem.W.Frag} {C : Addr} (h : oexB K C = true) : OexC K C := by
  unfold oexB at h
  simp only [Bool.and_eq_true, decide_eq_true_eq] at h
  obtain ⟨⟨⟨⟨h1, h2⟩, h3⟩, h4⟩, h5⟩ := h
  refine ⟨?_, He.eqO_ok h2, h3, h4, h5⟩
  split at h1
  · rename_i t dd cd sl lk
    split at h1
    · rename_i C' bm k0 k1 k2 k3 n k5 hm hs
      simp only [Bool.and_eq_true, beq_iff_eq, Bool.not_eq_true'] at h1
      obtain ⟨⟨⟨⟨⟨rfl, rfl⟩, rfl⟩, hd⟩, hh⟩, hb⟩ := h1
      obtain ⟨nm, bs, mro, ns, qn, hdict, sn, sub, ab, col, del⟩ := cd
      obtain ⟨l⟩ := sl
      dsimp only at hm hd hh hs
      subst hm hd hh hs
      exact ⟨_, _, _, _, _, _, _, _, _, _, _, _, _, _, _, lk, hb⟩
    · cases h1
  · cases h1
/-- where Refused.__init__ stands -/
abbrev initAt : Str × Option Str := ("Refused", some "__init__")
def errB (K : PySem.W.Frag) (C : Addr) : Bool := xfB K C && oexB K C && He.eqO (PySem.W.findIn K (.ref C) "what") (some none) && He.eqO (PySem.W.findIn K (.ref C) "__init__") (some (some (.ref (He.fAd K initAt)))) && decide (PySem.W.typeIn K (.ref (He.fAd K initAt)) = some (.type "function"))
structure ErrB (K : PySem.W.Frag) (C : Addr) : Prop where
  ec : ErrC K C
  init : PySem.W.findIn K (.ref C) "__init__" = some (some (.ref (He.fAd K initAt)))
  ty : PySem.W.typeIn K (.ref (He.fAd K initAt)) = some (.type "function")
theorem errB_ok {K : PySem.W.Frag} {C : Addr} (h : errB K C = true) : ErrB K C := by
  unfold errB at h
  simp only [Bool.and_eq_true, decide_eq_true_eq] at h
  obtain ⟨⟨⟨⟨h1, h2⟩, h3⟩, h4⟩, h5⟩ := h
  exact ⟨⟨xfB_ok h1, oexB_ok h2, He.eqO_ok h3⟩, He.eqO_ok h4, h5⟩
/-- def __init__(self, what): self.what = what -/
def initB (params : Arguments) (body : List Stmt) (sc : Scope) : Bool := plainPs params ["self", "what"] && fnScB ["self", "what"] ["self", "what"] sc && match body with
  | [.Assign [.Attribute (.Name s _) f _] (.Name v _) _] => s == "self" && f == "what" && v == "what" && decide (sc.names.lookup ("self" : Str) = some .local) && decide (sc.names.lookup ("what" : Str) = some .local)
  | _ => false
theorem init_ok {P : Program} {w : World} {K : PySem.W.Frag} {mg : Str → Option Value} {base : Heap} {x qual : Str} {params : Arguments} {body : List Stmt} {sc : Scope} {f : Addr} {fd : FuncData} (F : FunD K x qual params body sc [] [] f fd) (h : initB params body sc = true) :
    FnOk P w K mg base (L2.CX P w) 1 f fd ["self", "what"] (initSp K) ∧ Binds K fd ["self", "what"] [] := by
  unfold initB at h
  simp only [Bool.and_eq_true] at h
  obtain ⟨⟨h1, h2⟩, h3⟩ := h
  refine ⟨?_, binds_plain F h1⟩
  split at h3
  · rename_i s p1 g p2 v p3 p4
    simp only [Bool.and_eq_true, decide_eq_true_eq, beq_iff_eq] at h3
    obtain ⟨⟨⟨⟨rfl, rfl⟩, rfl⟩, k1⟩, k2⟩ := h3
    refine F.ok (fnSc_ok h2) (fun vs H Q E z => ?_) fun cdv A outer s H vs Q E hr z => ⟨_, pss_one (ps_ost (pe_var (i := 0) rfl (.inl k1)) (pe_var (i := 1) rfl (.inl k2))), ?_⟩
    · obtain ⟨a, u, C, rfl, _⟩ := z
      rfl
    · obtain ⟨a, u, C, rfl, oc, hn, ha, q⟩ := z
      exact ⟨u, rfl, .ref a, rfl, a, C, rfl, oc, hn, .inl ⟨ha, q⟩⟩
  · cases h3
/-! ### a law's text -/
/-- a lambda's names -/
structure LamD where
  qual : Str
  N : List Str
  fr : List Str
structure LawT where
  P : Prog
  fns : List FnI
  lamD : List LamD
  cls : List Str
  nums : List (Str × Int)
  free : List Str
  gcd : Bool
  lm : List Str
  initP : Arguments
  initS : List Stmt
  initC : Scope
section
variable (L : LawT)
/-- all lambdas, as the text has them -/
def LawT.all : List LamX := ((L.P.fns.zip L.fns).map fun p => collS p.1.body p.2.body).flatten
def LawT.lamOf (d : LamD) (i : Nat) : LamI := match L.all.find? fun z => z.l == i with
  | some z => ⟨d.qual, d.N, [], d.fr, z.args, z.body, z.scope⟩
  | none => ⟨d.qual, d.N, [], d.fr, ⟨[], [], none, [], [], none, []⟩, .Constant .none 0 ⟨0, 0, 0, 0⟩, ⟨.function, [], false, false, []⟩⟩
def LawT.lams : List LamI := L.lamD.zipIdx.map fun p => L.lamOf p.1 p.2
def LawT.inf : Inf := ⟨L.fns, L.lams, L.cls, L.nums, L.free, L.gcd⟩
def LawT.lmf (x : Str) : Bool := L.lm.contains x
def LawT.fa : List He.Fa := L.fns.map (fun fi => .glo fi.name) ++ (L.cls.map .glo ++ (L.free.map .free ++ L.nums.map fun p => .int p.1 p.2))
def FnI.dd (fi : FnI) : He.DefD := ⟨(fi.name, none), fi.name, fi.name, fi.params, fi.body, fi.scope, [], []⟩
def LawT.initD : He.DefD := ⟨initAt, "__init__", "Refused.__init__", L.initP, L.initS, L.initC, [], []⟩
def LawT.fn : List He.DefD := L.initD :: L.fns.map FnI.dd
def LawT.tf : List He.Defn := L.lm.map fun x => (x, none)
def LawT.exB (K : PySem.W.Frag) : Bool := (L.cls.zipIdx.all fun p => p.2 == 0 || L.cls.zipIdx.all fun q => decide (PySem.W.exmOne K (.ref (He.ga K q.1)) (.ref (He.ga K p.1)) = some (decide (p.2 = q.2))))
def LawT.ex (K : PySem.W.Frag) : Bool := (L.cls.all fun x => errB K (He.ga K x)) && L.exB K && decide ((L.tf.map fun p => (He.cT K p).2).Nodup) && (!L.gcd || He.eqO (PySem.W.nsIn K mainGlobals "gcd") (some (some (.builtin "math.gcd"))))
/-- a def's look -/
def LawT.fnB (p : Fn × FnI) : Bool := fnScB p.2.N p.2.ps p.2.scope && decide (p.1.ps = p.2.ps.length) && decide (p.1.n = p.2.N.length) && chkS (ckF L.inf L.lmf p.2) p.1.body p.2.body && plainPs p.2.params p.2.ps
def LawT.lamB (p : Lam × LamI) : Bool := NdefX.nscB p.2.N p.2.ps p.2.fr p.2.scope && decide (p.1.ps = 0) && decide (p.2.ps = []) && decide (p.1.n = p.2.N.length) && noArgs p.2.args && chk (ckL L.inf p.2) false p.1.body p.2.body && (coll p.1.body p.2.body).isEmpty
def LawT.good : Bool := decide (L.P.fns.length = L.fns.length) && (L.P.fns.zip L.fns).all L.fnB && (L.P.lams.zip L.lams).all L.lamB && decide ((L.all.map (·.l)).Nodup) && L.all.all (fun z => decide (z.l < L.lamD.length)) && initB L.initP L.initS L.initC
end
section
variable {L : LawT}
theorem LawT.lamsIn (h : L.good = true) : LamsIn L.inf L.all := fun z hz => by
  simp only [LawT.good, Bool.and_eq_true, decide_eq_true_eq] at h
  obtain ⟨⟨⟨⟨⟨_, _⟩, _⟩, nd⟩, lt⟩, _⟩ := h
  have lt := of_decide_eq_true (List.all_eq_true.mp lt z hz)
  have f : L.all.find? (fun y => y.l == z.l) = some z := by
    have gen : ∀ l : List LamX, (l.map (·.l)).Nodup → z ∈ l → l.find? (fun y => y.l == z.l) = some z := by
      intro l
      induction l with
      | nil => intro _ m; cases m
      | cons y l ih =>
        intro nd m
        rw [List.map_cons, List.nodup_cons] at nd
        by_cases e : y.l = z.l
        · rcases List.mem_cons.mp m with rfl | m
          · simp
          · exact absurd (List.mem_map.mpr ⟨z, m, e.symm⟩) nd.1
        · rcases List.mem_cons.mp m with rfl | m
          · exact absurd rfl e
          · rw [List.find?_cons, show (y.l == z.l) = false by simpa using e]
            exact ih nd.2 m
    exact gen _ nd hz
  refine ⟨L.lamOf L.lamD[z.l] z.l, ?_, ?_⟩
  · show (L.lamD.zipIdx.map fun p => L.lamOf p.1 p.2)[z.l]? = _
    rw [List.getElem?_map, List.getElem?_zipIdx, List.getElem?_eq_getElem lt]
    simp
  · unfold LawT.lamOf
    rw [f]
    exact ⟨rfl, rfl, rfl⟩
theorem LawT.prog (h : L.good = true) : ProgOk L.P L.inf L.lmf := by
  have li := LawT.lamsIn h
  simp only [LawT.good, Bool.and_eq_true, decide_eq_true_eq] at h
  obtain ⟨⟨⟨⟨⟨h1, h2⟩, h3⟩, _⟩, _⟩, _⟩ := h
  refine ⟨fun f fn fi e1 e2 => ?_, fun l lm lj e1 e2 => ?_⟩
  · have m : (fn, fi) ∈ L.P.fns.zip L.fns := List.mem_of_getElem? (i := f) (List.getElem?_zip_eq_some.mpr ⟨e1, e2⟩)
    have z := List.all_eq_true.mp h2 _ m
    simp only [LawT.fnB, Bool.and_eq_true, decide_eq_true_eq] at z
    obtain ⟨⟨⟨⟨z1, z2⟩, z3⟩, z4⟩, _⟩ := z
    exact ⟨z1, z2, z3, z4, fun y hy => li y (List.mem_flatten.mpr ⟨_, List.mem_map.mpr ⟨_, m, rfl⟩, hy⟩)⟩
  · have m : (lm, lj) ∈ L.P.lams.zip L.lams := List.mem_of_getElem? (i := l) (List.getElem?_zip_eq_some.mpr ⟨e1, e2⟩)
    have z := List.all_eq_true.mp h3 _ m
    simp only [LawT.lamB, Bool.and_eq_true, decide_eq_true_eq] at z
    obtain ⟨⟨⟨⟨⟨⟨z1, z2⟩, z3⟩, z4⟩, z5⟩, z6⟩, z7⟩ := z
    refine ⟨z1, z2, z3, z4, z5, z6, fun y hy => ?_⟩
    rw [List.isEmpty_iff.mp z7] at hy
    cases hy
/-- the tables that are kept in sight -/
def LawT.T (L : LawT) (K : PySem.W.Frag) : List (Addr × Str) := L.lm.map fun x => ((He.cT K (x, none)).2, x ++ ".<locals>." ++ "<lambda>")
def LawT.cs (L : LawT) (K : PySem.W.Frag) : List (Addr × Addr) := L.tf.map (He.cT K)
theorem LawT.facts {prog : Program} {w : World} {K : PySem.W.Frag} {mg : Str → Option Value} {h base : Heap} (hg : L.good = true) (X : K.In h) (G : h.Ns mainGlobals mg) (c : He.SaysX L.fa L.fn [] L.tf L.ex w h K) (tb : ∀ p ∈ L.cs K, LamX.TabB base mg p.1 p.2) :
    Facts L.P L.inf (L.T K) L.lmf prog w K mg base := by
  have ex := c.more
  simp only [LawT.ex, Bool.and_eq_true, decide_eq_true_eq] at ex
  obtain ⟨⟨⟨x1, x2⟩, x3⟩, x4⟩ := ex
  have fa1 : ∀ f ∈ L.fa, f.ok K = true := fun f m => He.SaysD.facts c.t.d m
  have pk := LawT.prog hg
  have hg' := hg
  simp only [LawT.good, Bool.and_eq_true, decide_eq_true_eq] at hg'
  obtain ⟨⟨⟨⟨⟨g1, g2⟩, g3⟩, _⟩, _⟩, g6⟩ := hg'
  have clsAt : ∀ (k : Nat) (x : Str), L.cls[k]? = some x → mg x = some (.ref (He.ga K x)) := fun k x e =>
    He.glo_ok X G (fa1 (.glo x) (List.mem_append_right _ (List.mem_append_left _ (List.mem_map.mpr ⟨x, List.mem_of_getElem? e, rfl⟩))))
  have isC : ∀ {k C}, IsC mg L.inf k C → ∃ x, L.cls[k]? = some x ∧ C = He.ga K x := fun {k C} ⟨x, e1, e2⟩ => by
    have z := clsAt k x e1
    rw [e2] at z
    cases z
    exact ⟨x, e1, rfl⟩
  obtain ⟨fdI, FI⟩ := He.SaysD.defs c.t.d (d := L.initD) (List.mem_cons_self ..)
  refine ⟨pk, fun f fi e => ?_, fun x m => ?_, fun x k m => ?_, fun z => ?_, ⟨fun k x e => ⟨_, clsAt k x e⟩, fun k C z => ?_, fun k C k' C' nz z z' => ?_, fun k C z => ?_⟩⟩
  · have e' : L.fns[f]? = some fi := e
    have me := List.mem_of_getElem? e'
    have gl := He.glo_ok X G (fa1 (.glo fi.name) (List.mem_append_left _ (List.mem_map.mpr ⟨fi, me, rfl⟩)))
    obtain ⟨fd, F⟩ := He.SaysD.defs c.t.d (d := fi.dd) (List.mem_cons_of_mem _ (List.mem_map.mpr ⟨fi, me, rfl⟩))
    have lt : f < L.P.fns.length := by rw [g1]; exact (List.getElem?_eq_some_iff.mp e').1
    have zz := List.all_eq_true.mp g2 (L.P.fns[f], fi) (List.mem_of_getElem? (i := f) (List.getElem?_zip_eq_some.mpr ⟨List.getElem?_eq_getElem lt, e'⟩))
    simp only [LawT.fnB, Bool.and_eq_true, decide_eq_true_eq] at zz
    have bd := binds_plain F zz.2
    have kp := F.kp
    obtain ⟨oc, od, dV, kV, doc, pm, an, cdv, ct, osl, rfl, lk, hcd, _, _⟩ := F.ex
    refine ⟨_, oc, od, osl, _, dV, kV, doc, pm, cdv, ct, an, gl, kp, lk, hcd, bd, fun z => ?_⟩
    obtain ⟨cc, rfl⟩ := He.codeIn_ref hcd
    have m2 : fi.name ∈ L.lm := List.contains_iff_mem.mp z
    have m3 : (fi.name, none) ∈ L.tf := List.mem_map.mpr ⟨_, m2, rfl⟩
    have ce : He.codeOf K (fi.name, none) = cc := He.codeOf_eq lk rfl
    refine ⟨cc, (He.cT K (fi.name, none)).2, rfl, ?_, List.mem_map.mpr ⟨_, m2, rfl⟩, fun p hp e => ?_⟩
    · have t := tb (He.cT K (fi.name, none)) (List.mem_map.mpr ⟨_, m3, rfl⟩)
      rw [show (He.cT K (fi.name, none)).1 = cc from ce] at t
      exact t
    · obtain ⟨y, hy, rfl⟩ := List.mem_map.mp hp
      have inj : ∀ l : List Str, ((l.map fun x => ((x, none) : He.Defn)).map fun p => (He.cT K p).2).Nodup → ∀ a ∈ l, ∀ b ∈ l, (He.cT K (a, none)).2 = (He.cT K (b, none)).2 → a = b := by
        intro l
        induction l with
        | nil => intro _ a m; cases m
        | cons d l ih =>
          intro nd a ma b mb e
          simp only [List.map_cons, List.nodup_cons] at nd
          rcases List.mem_cons.mp ma with rfl | ma2
          · rcases List.mem_cons.mp mb with rfl | mb2
            · rfl
            · exact absurd (List.mem_map.mpr ⟨(b, none), List.mem_map.mpr ⟨b, mb2, rfl⟩, e.symm⟩) nd.1
          · rcases List.mem_cons.mp mb with rfl | mb2
            · exact absurd (List.mem_map.mpr ⟨(a, none), List.mem_map.mpr ⟨a, ma2, rfl⟩, e⟩) nd.1
            · exact ih nd.2 a ma2 b mb2 e
      rw [inj L.lm x3 y hy fi.name m2 e]
  · exact He.free_ok X G (fa1 (.free x) (List.mem_append_right _ (List.mem_append_right _ (List.mem_append_left _ (List.mem_map.mpr ⟨x, m, rfl⟩)))))
  · exact He.int_ok X G (fa1 (.int x k) (List.mem_append_right _ (List.mem_append_right _ (List.mem_append_right _ (List.mem_map.mpr ⟨(x, k), m, rfl⟩)))))
  · have z' : L.gcd = true := z
    rw [z'] at x4
    exact PySem.W.mg_of X G (He.eqO_ok x4)
  · obtain ⟨x, e, rfl⟩ := isC z
    exact (errB_ok (List.all_eq_true.mp x1 x (List.mem_of_getElem? e))).ec
  · obtain ⟨x, e, rfl⟩ := isC z
    obtain ⟨x', e', rfl⟩ := isC z'
    have m1 : (x, k) ∈ L.cls.zipIdx := List.mem_of_getElem? (i := k) (by rw [List.getElem?_zipIdx, e]; simp)
    have m2 : (x', k') ∈ L.cls.zipIdx := List.mem_of_getElem? (i := k') (by rw [List.getElem?_zipIdx, e']; simp)
    have q := List.all_eq_true.mp x2 _ m1
    rw [Bool.or_eq_true] at q
    rcases q with q | q
    · exact absurd (by simpa using q) nz
    · exact of_decide_eq_true (List.all_eq_true.mp q _ m2)
  · obtain ⟨x, e, rfl⟩ := isC z
    have eb := errB_ok (List.all_eq_true.mp x1 x (List.mem_of_getElem? e))
    obtain ⟨i1, i2⟩ := init_ok (P := prog) (w := w) (mg := mg) (base := base) FI g6
    exact ⟨_, _, _, eb.init, eb.ty, i1, i2⟩
theorem reps_ints {K : PySem.W.Frag} {ρ α : List Addr} {H : Hp} : ∀ ns : List Int, Reps K ρ α H (ns.map D.int) (ns.map V.int)
  | [] => Reps.nil
  | n :: ns => Reps.cons (by simp only [Rep]) (reps_ints ns)
/-- the law, from what the head tells and from what the evaluator says -/
theorem LawT.walk (L : LawT) {l : PySem.W.OpenLaw} {n N ix : Nat} {q : Program} {loose : List Str} {XP : (Str → Option Value) → Heap → Prop} {d : DefRec} {fi : FnI} (hn : l.most = some n) (hn2 : n ≤ sizeLine) (hdf : d.params.defaults = []) (hr : Room (N + 2) callerA) (hg : L.good = true)
    (hl : L.fns[ix]? = some fi) (hname : d.name = fi.name)
    (hm : ∀ ns : List Int, ns.length ≤ n → (∀ z ∈ ns, Builtin.Int.intBits z ≤ 1048576) → ∃ st, callF L.P N (.fn ix) [.val (.scr (ns.map D.int))] ⟨[], none⟩ = .ok (.v (.bl true)) st) :
    PySem.W.WalkO q loose XP (fun w h => ∃ K : PySem.W.Frag, K.In h ∧ He.SaysX L.fa L.fn [] L.tf L.ex w h K) l.row.toRowW d [] (fun f vs => PySem.call f vs) := by
  refine Att.attach_callB hn hdf fun w s₀ s₁ mg mb fa o pm cd doc a vs ns G Y ho hd hcd hmg hobj hints hlen hbits hgen => ?_
  obtain ⟨K, KX, c⟩ := Y
  have en : Entry w K mg mb (L.cs K) a vs ns s₁ := ⟨KX, G.T.g, G.T.b, G.T.builtins, G.T.nolimit, hgen, fun p hp => by
    obtain ⟨y, hy, rfl⟩ := List.mem_map.mp hp
    exact c.empty y hy, fun p hp => by
    obtain ⟨y, hy, rfl⟩ := List.mem_map.mp hp
    exact c.out y hy, fun p hp => by
    obtain ⟨y, hy, rfl⟩ := List.mem_map.mp hp
    exact PySem.W.codeHd_of_K KX (c.hd y hy), G.T.bmain, hobj, hints, Nat.le_trans hlen hn2⟩
  refine en.run ?_
  have F := LawT.facts (prog := l.prog) (base := hidT s₁.heap (eH K (L.cs K) a vs ns)) hg KX G.T.g c fun p hp => en.tabB hp
  obtain ⟨st, e⟩ := hm ns hlen hbits
  refine cl_ok F N callerA [] s₁ _ [] ⟨[], none⟩ (.fn ix) fa [.val (.scr (ns.map D.int))] [.ref a] [.ref a] _ _ hr rfl en.env0 ⟨⟨rfl, List.nodup_nil, fun k b ds e => by simp at e⟩, fun p hp => ?_⟩ ⟨fi, hl, by rw [← hname]; exact hmg⟩ ⟨rfl, fun i z ez => ?_⟩ (.cons rfl .nil) ?_
  · obtain ⟨y, hy, rfl⟩ := List.mem_map.mp hp
    exact LamX.TabS.nil (en.tbl (List.mem_map.mpr ⟨(y, none), List.mem_map.mpr ⟨y, hy, rfl⟩, rfl⟩))
  · cases i with
    | zero =>
      simp only [List.getElem?_cons_zero, Option.some.injEq] at ez
      subst ez
      refine ⟨.ref a, rfl, ?_⟩
      simp only [Rep]
      exact ⟨a, _, rfl, en.scrAt, reps_ints ns⟩
    | succ i => simp at ez
  · show PostX K mg _ _ _ (callF L.P N (.fn ix) _ _) _ _
    rw [e]
    intro ρ' H' ex t v r
    have r2 := r.2
    simp only [Rep] at r2
    exact r2
end
end Ev

set_option Elab.async false
set_option linter.all false
set_option maxRecDepth 100000
/-! EvM: the evaluator's equations for simp, loops by invariants -/
namespace Ev
open PySem
/-- by a truth -/
def tri {α : Type} (o : Option Bool) (a b : R α) : R α := match o with
  | some true => a
  | some false => b
  | none => .bad
@[simp] theorem tri_some {α : Type} {k : Bool} {a b : R α} : tri (some k) a b = if k = true then a else b := by cases k <;> rfl
/-- one statement behind another -/
def seqO (o : O) (k : Env → St → O) : O := match o with
  | .nx env s => k env s
  | o => o
@[simp] theorem seqO_nx {env : Env} {s : St} {k : Env → St → O} : seqO (.nx env s) k = k env s := id rfl
@[simp] theorem seqO_rt {x : X} {s : St} {k : Env → St → O} : seqO (.rt x s) k = .rt x s := id rfl
@[simp] theorem seqO_rs {c : Nat} {w : D} {env : Env} {s : St} {k : Env → St → O} : seqO (.rs c w env s) k = .rs c w env s := id rfl
@[simp] theorem seqO_br {env : Env} {s : St} {k : Env → St → O} : seqO (.br env s) k = .br env s := id rfl
@[simp] theorem seqO_ct {env : Env} {s : St} {k : Env → St → O} : seqO (.ct env s) k = .ct env s := id rfl
@[simp] theorem seqO_ite {c : Prop} [Decidable c] {a b : O} {k : Env → St → O} : seqO (if c then a else b) k = if c then seqO a k else seqO b k := by split <;> rfl
@[simp] theorem bind_ite {α β : Type} {c : Prop} [Decidable c] {a b : R α} {k : α → St → R β} : (if c then a else b).bind k = if c then a.bind k else b.bind k := by split <;> rfl
@[simp] theorem to_ite {α : Type} {c : Prop} [Decidable c] {a b : R α} {env : Env} {k : α → St → O} : (if c then a else b).to env k = if c then a.to env k else b.to env k := by split <;> rfl
/-- a def's end -/
def retF (kp : Bool) (s : St) (o : O) : R X := match o with
  | .nx _ s' => leaveX kp s (.v .non) s'
  | .rt x s' => leaveX kp s x s'
  | .rs c w _ s' => leaveR s c w s'
  | _ => .bad
@[simp] theorem retF_nx {kp : Bool} {s s' : St} {env : Env} : retF kp s (.nx env s') = leaveX kp s (.v .non) s' := id rfl
@[simp] theorem retF_rt {kp : Bool} {s s' : St} {x : X} : retF kp s (.rt x s') = leaveX kp s x s' := id rfl
@[simp] theorem retF_rs {kp : Bool} {s s' : St} {c : Nat} {w : D} {env : Env} : retF kp s (.rs c w env s') = leaveR s c w s' := id rfl
@[simp] theorem retF_ite {kp : Bool} {s : St} {c : Prop} [Decidable c] {a b : O} : retF kp s (if c then a else b) = if c then retF kp s a else retF kp s b := by split <;> rfl
/-- a lambda's end -/
def retL (s : St) (r : R X) : R X := match r with
  | .ok x s' => leaveX false s x s'
  | .rs c w s' => leaveR s c w s'
  | .bad => .bad
@[simp] theorem retL_ok {s s' : St} {x : X} : retL s (.ok x s') = leaveX false s x s' := id rfl
@[simp] theorem retL_rs {s s' : St} {c : Nat} {w : D} : retL s (.rs c w s') = leaveR s c w s' := id rfl
@[simp] theorem retL_ite {s : St} {c : Prop} [Decidable c] {a b : R X} : retL s (if c then a else b) = if c then retL s a else retL s b := by split <;> rfl
def tryR (o : Option Str) (r : O) (w : D) (s : St) : O := match o with
  | some x => .rt (.v (.tup [.str x, w])) s
  | none => r
@[simp] theorem tryR_some {x : Str} {r : O} {w : D} {s : St} : tryR (some x) r w s = .rt (.v (.tup [.str x, w])) s := id rfl
@[simp] theorem tryR_none {r : O} {w : D} {s : St} : tryR none r w s = r := id rfl
/-- a try's end -/
def tryO (hs : List (Nat × Str)) (o : O) : O := match o with
  | .rs c w env' s' => match lookC hs c with
    | some x => .rt (.v (.tup [.str x, w])) s'
    | none => .rs c w env' s'
  | o => o
@[simp] theorem tryO_rt {hs : List (Nat × Str)} {x : X} {s : St} : tryO hs (.rt x s) = .rt x s := id rfl
@[simp] theorem tryO_nx {hs : List (Nat × Str)} {env : Env} {s : St} : tryO hs (.nx env s) = .nx env s := id rfl
@[simp] theorem tryO_rs {hs : List (Nat × Str)} {c : Nat} {w : D} {env : Env} {s : St} : tryO hs (.rs c w env s) = tryR (lookC hs c) (.rs c w env s) w s := id rfl
@[simp] theorem tryO_ite {hs : List (Nat × Str)} {c : Prop} [Decidable c] {a b : O} : tryO hs (if c then a else b) = if c then tryO hs a else tryO hs b := by split <;> rfl
/-- a slot's value -/
def getV (o : Option Sl) (s : St) : R X := match o with
  | some (.val d) => .ok (.v d) s
  | _ => .bad
@[simp] theorem getV_val {d : D} {s : St} : getV (some (.val d)) s = .ok (.v d) s := id rfl
def negR (d : D) (s : St) : R X := match d with
  | .int i => .ok (.v (.int (-i))) s
  | _ => .bad
@[simp] theorem negR_int {i : Int} {s : St} : negR (.int i) s = .ok (.v (.int (-i))) s := id rfl
def boxR (x : X) (s : St) : R X := match x with
  | .n ds => .ok (.v (.ref s.objs.length)) ⟨s.objs ++ [.lst ds], s.esc⟩
  | .v (.ref k) => .ok (.v (.ref k)) s
  | _ => .bad
@[simp] theorem boxR_n {ds : List D} {s : St} : boxR (.n ds) s = .ok (.v (.ref s.objs.length)) ⟨s.objs ++ [.lst ds], s.esc⟩ := id rfl
@[simp] theorem boxR_ref {k : Nat} {s : St} : boxR (.v (.ref k)) s = .ok (.v (.ref k)) s := id rfl
def callV (cl : Call) (o : Option Sl) (r : R (List Sl)) : R X := match o with
  | some (.fn f) => r.bind fun as s => cl (.fn f) as s
  | some (.lam l e) => r.bind fun as s => cl (.lam l e) as s
  | _ => .bad
@[simp] theorem callV_fn {cl : Call} {f : Nat} {r : R (List Sl)} : callV cl (some (.fn f)) r = r.bind fun as s => cl (.fn f) as s := id rfl
@[simp] theorem callV_lam {cl : Call} {l : Nat} {e : List Sl} {r : R (List Sl)} : callV cl (some (.lam l e)) r = r.bind fun as s => cl (.lam l e) as s := id rfl
def refR {α : Type} (d : D) (k : Nat → R α) : R α := match d with
  | .ref n => k n
  | _ => .bad
@[simp] theorem refR_ref {α : Type} {n : Nat} {k : Nat → R α} : refR (.ref n) k = k n := id rfl
def optR {α β : Type} (o : Option α) (k : α → R β) : R β := match o with
  | some a => k a
  | none => .bad
@[simp] theorem optR_some {α β : Type} {a : α} {k : α → R β} : optR (some a) k = k a := id rfl
def optO {α : Type} (o : Option α) (k : α → O) : O := match o with
  | some a => k a
  | none => .bad
@[simp] theorem optO_some {α : Type} {a : α} {k : α → O} : optO (some a) k = k a := id rfl
def argV (o : Option Sl) (r : R (List Sl)) : R (List Sl) := match o with
  | some (.val d) => r.bind fun as s => .ok (.val d :: as) s
  | some (.fn f) => r.bind fun as s => .ok (.fn f :: as) s
  | some (.lam l e) => r.bind fun as s => .ok (.lam l e :: as) s
  | _ => .bad
@[simp] theorem argV_val {d : D} {r : R (List Sl)} : argV (some (.val d)) r = r.bind fun as s => .ok (.val d :: as) s := id rfl
@[simp] theorem argV_fn {f : Nat} {r : R (List Sl)} : argV (some (.fn f)) r = r.bind fun as s => .ok (.fn f :: as) s := id rfl
@[simp] theorem argV_lam {l : Nat} {e : List Sl} {r : R (List Sl)} : argV (some (.lam l e)) r = r.bind fun as s => .ok (.lam l e :: as) s := id rfl
def setIO (env : Env) (s : St) (x y z : D) : O := match y, z with
  | .ref n, .int k => match s.objs[n]? with
    | some (.lst ds) => match ixN ds.length k with
      | some j => .nx env (setO s n (.lst (ds.set j x)) (escW n x s.esc))
      | none => .bad
    | none => .bad
  | _, _ => .bad
theorem setIO_ref {env : Env} {s : St} {x : D} {n : Nat} {k : Int} {ds : List D} {j : Nat} (h : s.objs[n]? = some (.lst ds)) (h2 : ixN ds.length k = some j) : setIO env s x (.ref n) (.int k) = .nx env (setO s n (.lst (ds.set j x)) (escW n x s.esc)) := by
  unfold setIO
  simp only [h, h2]
def augO (env : Env) (i : Nat) (o : Bop) (w : Option Sl) (r : R X) : O := match w with
  | some (.val (.int a)) => r.to env fun x s => match augD o a x.d with
      | some k => .nx (env.set i (.val (.int k))) s
      | none => .bad
  | _ => .bad
@[simp] theorem augO_add {env : Env} {i : Nat} {a b : Int} {s : St} : augO env i .add (some (.val (.int a))) (.ok (.v (.int b)) s) = .nx (env.set i (.val (.int (a + b)))) s := id rfl
@[simp] theorem augO_sub {env : Env} {i : Nat} {a b : Int} {s : St} : augO env i .sub (some (.val (.int a))) (.ok (.v (.int b)) s) = .nx (env.set i (.val (.int (a - b)))) s := id rfl
section
variable {α β : Type} {cl : Call} {env : Env} {s s' : St} {a b c e lo hi : T} {es r : TL} {i j : Nat} {d : D} {o p : Bop} {q p2 : Cop} {objs : List Ob}
@[simp] theorem bind_ok' {x : α} {f : α → St → R β} : (R.ok x s).bind f = f x s := id rfl
@[simp] theorem bind_rs' {k : Nat} {w : D} {f : α → St → R β} : (R.rs k w s : R α).bind f = .rs k w s := id rfl
@[simp] theorem bind_bad' {f : α → St → R β} : (R.bad : R α).bind f = .bad := id rfl
@[simp] theorem to_ok' {x : α} {f : α → St → O} : (R.ok x s).to env f = f x s := id rfl
@[simp] theorem to_rs' {k : Nat} {w : D} {f : α → St → O} : (R.rs k w s : R α).to env f = .rs k w env s := id rfl
@[simp] theorem ofO_some {x : α} : ofO s (some x) = .ok x s := id rfl
@[simp] theorem ev_loc : ev cl (.loc i) env s = getV env[i]? s := id rfl
@[simp] theorem ev_cst : ev cl (.cst d) env s = .ok (.v d) s := id rfl
@[simp] theorem ev_bin : ev cl (.bin o a b) env s = (ev cl a env s).bind fun x s => (ev cl b env s).bind fun y s => ofO s (binop s.objs o x.d y.d) := id rfl
@[simp] theorem ev_neg : ev cl (.neg a) env s = (ev cl a env s).bind fun x s => negR x.d s := id rfl
@[simp] theorem ev_not : ev cl (.not a) env s = (ev cl a env s).bind fun x s => ofO s ((truth s.objs x.d).map fun b => .v (.bl !b)) := id rfl
@[simp] theorem ev_cmp : ev cl (.cmp q a b) env s = (ev cl a env s).bind fun x s => (ev cl b env s).bind fun y s => ofO s ((cmp s.objs q x.d y.d).map fun b => .v (.bl b)) := id rfl
@[simp] theorem ev_chn : ev cl (.chn q p2 a b c) env s = (ev cl a env s).bind fun x s => (ev cl b env s).bind fun y s => tri (cmp s.objs q x.d y.d) ((ev cl c env s).bind fun z s => ofO s ((cmp s.objs p2 y.d z.d).map fun b => .v (.bl b))) (.ok (.v (.bl false)) s) := by
  simp only [ev]
  all_goals rfl
@[simp] theorem ev_and : ev cl (.and a b) env s = (ev cl a env s).bind fun x s => tri (truth s.objs x.d) (ev cl b env s) (.ok x s) := by
  simp only [ev]
  all_goals rfl
@[simp] theorem ev_or : ev cl (.or a b) env s = (ev cl a env s).bind fun x s => tri (truth s.objs x.d) (.ok x s) (ev cl b env s) := by
  simp only [ev]
  all_goals rfl
@[simp] theorem ev_itE : ev cl (.ite c a b) env s = (ev cl c env s).bind fun x s => tri (truth s.objs x.d) (ev cl a env s) (ev cl b env s) := by
  simp only [ev]
  all_goals rfl
@[simp] theorem ev_tup : ev cl (.tup es) env s = (evs cl es env s).bind fun ds s => .ok (.v (.tup ds)) s := id rfl
@[simp] theorem ev_lst : ev cl (.lst es) env s = (evs cl es env s).bind fun ds s => .ok (.n ds) s := id rfl
@[simp] theorem ev_box : ev cl (.box a) env s = (ev cl a env s).bind boxR := id rfl
@[simp] theorem ev_idx : ev cl (.idx a b) env s = (ev cl a env s).bind fun x s => (ev cl b env s).bind fun y s => ofO s ((idx s.objs x.d y.d).map .v) := id rfl
@[simp] theorem ev_sl : ev cl (.sl a lo hi) env s = (ev cl a env s).bind fun x s => (part lo (ev cl lo env s) s).bind fun l s => (part hi (ev cl hi env s) s).bind fun h s => ofO s (slice s.objs x.d l h) := id rfl
@[simp] theorem ev_rev : ev cl (.rev a) env s = (ev cl a env s).bind fun x s => ofO s (rev s.objs x.d) := id rfl
@[simp] theorem ev_call : ev cl (.call i es) env s = (eva cl es env s).bind fun as s => cl (.fn i) as s := id rfl
@[simp] theorem ev_callv : ev cl (.callv i es) env s = callV cl env[i]? (eva cl es env s) := id rfl
@[simp] theorem ev_bc {k : Bi} : ev cl (.bc k es) env s = (evs cl es env s).bind fun ds s => ofO s (bi s.objs k ds) := id rfl
@[simp] theorem ev_mt {m : Mt} : ev cl (.mt m a es) env s = (ev cl a env s).bind fun x s => refR x.d fun n => (evs cl es env s).bind fun ds s => mt s m n ds := id rfl
@[simp] theorem ev_lc {own : List Nat} {g : G} {k : Qk} {cs : TL} {el : T} : ev cl (.lc own g k es cs el) env s = (evs cl es env s).bind fun ds s => optR (items s.objs k ds) fun is => (lcL s.objs.length (fun s' => still s.objs s'.objs ds) (lcB (evc cl cs) (ev cl el) g (noL (wipe env own))) is ⟨s.objs ++ [.lst []], none⟩).bind fun _ s' => lcE s s' := by
  simp only [ev]
  all_goals (refine congrArg _ (funext fun ds => funext fun s => ?_); cases items s.objs k ds <;> rfl)
@[simp] theorem evs_nil : evs cl .nil env s = .ok [] s := id rfl
@[simp] theorem evs_cons : evs cl (.cons e r) env s = (ev cl e env s).bind fun x s => (evs cl r env s).bind fun ds s => .ok (x.d :: ds) s := id rfl
@[simp] theorem eva_nil : eva cl .nil env s = .ok [] s := id rfl
@[simp] theorem eva_loc : eva cl (.cons (.loc i) r) env s = argV env[i]? (eva cl r env s) := id rfl
@[simp] theorem eva_fn : eva cl (.cons (.fn i) r) env s = (eva cl r env s).bind fun as s => .ok (.fn i :: as) s := id rfl
@[simp] theorem eva_lam {cap : List Nat} : eva cl (.cons (.lam i cap) r) env s = (eva cl r env s).bind fun as s => .ok (.lam i (capt env cap) :: as) s := id rfl
/-- an argument that is a plain expression -/
def evP (cl : Call) (e : T) (r : TL) (env : Env) (s : St) : R (List Sl) := (ev cl e env s).bind fun x s => (eva cl r env s).bind fun as s => .ok (.val x.d :: as) s
@[simp] theorem evP_def : evP cl e r env s = (ev cl e env s).bind fun x s => (eva cl r env s).bind fun as s => .ok (.val x.d :: as) s := id rfl
@[simp] theorem eva_cst : eva cl (.cons (.cst d) r) env s = evP cl (.cst d) r env s := id rfl
@[simp] theorem eva_bin : eva cl (.cons (.bin o a b) r) env s = evP cl (.bin o a b) r env s := id rfl
@[simp] theorem eva_neg : eva cl (.cons (.neg a) r) env s = evP cl (.neg a) r env s := id rfl
@[simp] theorem eva_not : eva cl (.cons (.not a) r) env s = evP cl (.not a) r env s := id rfl
@[simp] theorem eva_cmp : eva cl (.cons (.cmp q a b) r) env s = evP cl (.cmp q a b) r env s := id rfl
@[simp] theorem eva_and : eva cl (.cons (.and a b) r) env s = evP cl (.and a b) r env s := id rfl
@[simp] theorem eva_or : eva cl (.cons (.or a b) r) env s = evP cl (.or a b) r env s := id rfl
@[simp] theorem eva_ite : eva cl (.cons (.ite c a b) r) env s = evP cl (.ite c a b) r env s := id rfl
@[simp] theorem eva_tup : eva cl (.cons (.tup es) r) env s = evP cl (.tup es) r env s := id rfl
@[simp] theorem eva_lst : eva cl (.cons (.lst es) r) env s = evP cl (.lst es) r env s := id rfl
@[simp] theorem eva_idx : eva cl (.cons (.idx a b) r) env s = evP cl (.idx a b) r env s := id rfl
@[simp] theorem eva_sl : eva cl (.cons (.sl a lo hi) r) env s = evP cl (.sl a lo hi) r env s := id rfl
@[simp] theorem eva_call : eva cl (.cons (.call i es) r) env s = evP cl (.call i es) r env s := id rfl
@[simp] theorem eva_bc {k : Bi} : eva cl (.cons (.bc k es) r) env s = evP cl (.bc k es) r env s := id rfl
@[simp] theorem eva_mt {m : Mt} : eva cl (.cons (.mt m a es) r) env s = evP cl (.mt m a es) r env s := id rfl
@[simp] theorem eva_lc {own : List Nat} {g : G} {k : Qk} {cs : TL} {el : T} : eva cl (.cons (.lc own g k es cs el) r) env s = evP cl (.lc own g k es cs el) r env s := id rfl
@[simp] theorem evc_nil : evc cl .nil env s = .ok true s := id rfl
@[simp] theorem evc_cons : evc cl (.cons e r) env s = (ev cl e env s).bind fun x s => tri (truth s.objs x.d) (evc cl r env s) (.ok false s) := by
  simp only [evc]
  all_goals rfl
@[simp] theorem evt_def : evt cl e env s = (ev cl e env s).bind fun x s => ofO s (truth s.objs x.d) := id rfl
@[simp] theorem evo_def : evo cl e env s = part e (ev cl e env s) s := id rfl
@[simp] theorem part_no {k : R X} : part .no k s = .ok none s := id rfl
@[simp] theorem part_cst {k : R X} : part (.cst d) k s = k.bind fun x s => asInt x.d s := id rfl
@[simp] theorem part_loc {k : R X} : part (.loc i) k s = k.bind fun x s => asInt x.d s := id rfl
@[simp] theorem part_bin {k : R X} : part (.bin o a b) k s = k.bind fun x s => asInt x.d s := id rfl
@[simp] theorem part_neg {k : R X} : part (.neg a) k s = k.bind fun x s => asInt x.d s := id rfl
@[simp] theorem part_bc {k : R X} {m : Bi} : part (.bc m es) k s = k.bind fun x s => asInt x.d s := id rfl
@[simp] theorem asInt_int {k : Int} : asInt (.int k) s = .ok (some k) s := id rfl
@[simp] theorem X_v : (X.v d).d = d := id rfl
@[simp] theorem X_n {ds : List D} : (X.n ds).d = .lst ds := id rfl
/-! ### statements -/
variable {x y : S} {g : G}
@[simp] theorem ex_ex : exS cl (.ex e) env s = (ev cl e env s).to env fun _ s => .nx env s := id rfl
@[simp] theorem ex_asg : exS cl (.asg g e) env s = (ev cl e env s).to env fun x s => ofE s (asg g x.d env) := id rfl
@[simp] theorem ex_setI : exS cl (.setI a b e) env s = (ev cl e env s).to env fun x s => (ev cl a env s).to env fun y s => (ev cl b env s).to env fun z s => setIO env s x.d y.d z.d := id rfl
@[simp] theorem ex_aug : exS cl (.aug i o e) env s = augO env i o env[i]? (ev cl e env s) := id rfl
@[simp] theorem ex_ret : exS cl (.ret e) env s = (ev cl e env s).to env fun x s => .rt x s := id rfl
@[simp] theorem ex_retN : exS cl .retN env s = .rt (.v .non) s := id rfl
@[simp] theorem ex_ife : exS cl (.ife c x y) env s = (evt cl c env s).to env fun t s => if t then exS cl x env s else exS cl y env s := id rfl
@[simp] theorem ex_fr {k : Qk} : exS cl (.fr g k es x) env s = (evs cl es env s).to env fun ds s => optO (items s.objs k ds) fun is => frL (fun s' => still s.objs s'.objs ds) (frB (exS cl x) g) is env s := by
  simp only [exS]
  all_goals (refine congrArg _ (funext fun ds => funext fun s => ?_); cases items s.objs k ds <;> rfl)
@[simp] theorem ex_wh : exS cl (.wh c x) env s = whL (evt cl c) (exS cl x) bigN env s := id rfl
@[simp] theorem ex_brk : exS cl .brk env s = .br env s := id rfl
@[simp] theorem ex_cnt : exS cl .cnt env s = .ct env s := id rfl
@[simp] theorem ex_skip : exS cl .skip env s = .nx env s := id rfl
@[simp] theorem ex_rais {k : Nat} : exS cl (.rais k e) env s = (ev cl e env s).to env fun x s => .rs k x.d env s := id rfl
@[simp] theorem ex_tri {hs : List (Nat × Str)} : exS cl (.tri x hs) env s = tryO hs (exS cl x env s) := by
  simp only [exS, tryO]
  all_goals (cases exS cl x env s <;> rfl)
@[simp] theorem ex_seq : exS cl (.seq x y) env s = seqO (exS cl x env s) (exS cl y) := by
  simp only [exS, seqO]
  all_goals (cases exS cl x env s <;> rfl)
@[simp] theorem ofE_some {env' : Env} : ofE s (some env') = .nx env' s := id rfl
@[simp] theorem asg_nm : asg (.nm i) d env = if i < env.length then some (env.set i (.val d)) else none := id rfl
@[simp] theorem asg_tup {g r : G} {ds : List D} : asg (.tup g r) (.tup (d :: ds)) env = (asg g d env).bind (asgL r ds) := by
  simp only [asg]
  all_goals (cases asg g d env <;> rfl)
@[simp] theorem asgL_nil : asgL .nil [] env = some env := id rfl
@[simp] theorem asgL_cons {g r : G} {ds : List D} : asgL (.tup g r) (d :: ds) env = (asg g d env).bind (asgL r ds) := by
  simp only [asgL]
  all_goals (cases asg g d env <;> rfl)
@[simp] theorem frB_def {k : Env → St → O} : frB k g d env s = optO (asg g d env) fun env' => k env' s := by
  unfold frB
  cases asg g d env <;> rfl
@[simp] theorem enter_objs : s.enter.objs = s.objs := id rfl
/-! ### operators -/
variable {m n : Int} {xs ys : List D}
@[simp] theorem b_add : binop objs .add (.int m) (.int n) = some (.v (.int (m + n))) := id rfl
@[simp] theorem b_sub : binop objs .sub (.int m) (.int n) = some (.v (.int (m - n))) := id rfl
theorem b_mulL (h : -(2 ^ 64) < m ∧ m < 2 ^ 64) : binop objs .mul (.int m) (.int n) = some (.v (.int (m * n))) := by
  have h1 := h.1; have h2 := h.2
  simp [binop, mulD, sm]
  omega
theorem b_mulR (h : -(2 ^ 64) < n ∧ n < 2 ^ 64) : binop objs .mul (.int m) (.int n) = some (.v (.int (m * n))) := by
  have h1 := h.1; have h2 := h.2
  simp [binop, mulD, sm]
  omega
theorem b_div (h : 0 < n ∧ n < 1073741824) : binop objs .fdiv (.int m) (.int n) = some (.v (.int (m / n))) := by
  simp [binop, intD, h.1, h.2]
theorem b_mod (h : 0 < n) : binop objs .mod (.int m) (.int n) = some (.v (.int (m % n))) := by
  simp [binop, intD, h]
@[simp] theorem t_bl {b : Bool} : truth objs (.bl b) = some b := id rfl
@[simp] theorem t_int : truth objs (.int m) = some (m != 0) := id rfl
@[simp] theorem t_tup : truth objs (.tup xs) = some (!xs.isEmpty) := id rfl
@[simp] theorem t_lst : truth objs (.lst xs) = some (!xs.isEmpty) := id rfl
@[simp] theorem t_non : truth objs .non = some false := id rfl
@[simp] theorem c_lt : cmp objs .lt (.int m) (.int n) = some (decide (m < n)) := id rfl
@[simp] theorem c_le : cmp objs .le (.int m) (.int n) = some (decide (m ≤ n)) := id rfl
@[simp] theorem c_gt : cmp objs .gt (.int m) (.int n) = some (decide (n < m)) := id rfl
@[simp] theorem c_ge : cmp objs .ge (.int m) (.int n) = some (decide (n ≤ m)) := id rfl
@[simp] theorem c_isN : cmp objs .is d .non = some (match d with | .non => true | _ => false) := by cases d <;> rfl
@[simp] theorem c_isnN : cmp objs .isn d .non = some (match d with | .non => false | _ => true) := by cases d <;> rfl
@[simp] theorem c_eqI : cmp objs .eq (.int m) (.int n) = some (m == n) := by
  show (if SeqAt.shaped (.int m) && SeqAt.shaped (.int n) then some (PyData.eqv (.int m) (.int n)) else none) = _
  have e : ∀ k : Int, SeqAt.shaped (.int k) = true := fun k => rfl
  rw [e, e]
  rfl
@[simp] theorem c_neI : cmp objs .ne (.int m) (.int n) = some (m != n) := by
  show (cmp objs .eq (.int m) (.int n)).map (!·) = _
  rw [c_eqI]; rfl
@[simp] theorem seq_tup' : seqOf objs (.tup xs) = some xs := id rfl
@[simp] theorem seq_lst' : seqOf objs (.lst xs) = some xs := id rfl
@[simp] theorem seq_scr' : seqOf objs (.scr xs) = some xs := id rfl
@[simp] theorem bi_int : bi objs .int [.int m] = some (.v (.int m)) := id rfl
@[simp] theorem bi_lenT : bi objs .len [.tup xs] = some (.v (.int xs.length)) := id rfl
@[simp] theorem bi_lenL : bi objs .len [.lst xs] = some (.v (.int xs.length)) := id rfl
@[simp] theorem bi_lenS : bi objs .len [.scr xs] = some (.v (.int xs.length)) := id rfl
@[simp] theorem bi_isI : bi objs .isI [d] = some (.v (.bl (match d with | .int _ => true | .bl _ => true | _ => false))) := id rfl
@[simp] theorem bi_isB : bi objs .isB [d] = some (.v (.bl (match d with | .bl _ => true | _ => false))) := id rfl
@[simp] theorem bi_isT : bi objs .isT [d] = some (.v (.bl (match d with | .tup _ => true | _ => false))) := id rfl
@[simp] theorem still_nr : still objs objs' [] = true := id rfl
end
/-! ### calls -/
/-- a def runs -/
def runF (fn : Fn) (cl : Call) (as : List Sl) (s : St) : R X := if as.length = fn.ps then retF fn.kp s (exS cl fn.body (as ++ List.replicate (fn.n - fn.ps) .no) s.enter) else .bad
def runL (lm : Lam) (cl : Call) (ws as : List Sl) (s : St) : R X := if as.length = lm.ps then retL s (ev cl lm.body (as ++ (ws ++ List.replicate (lm.n - as.length - ws.length) .no)) s.enter) else .bad
theorem callF_fn {P : Prog} {n f : Nat} {as : List Sl} {s : St} {fn : Fn} (h : P.fns[f]? = some fn) : callF P (n + 1) (.fn f) as s = runF fn (callF P n) as s := by
  simp only [callF, h, runF, retF]
  all_goals (split <;> first | rfl | (cases exS (callF P n) fn.body (as ++ List.replicate (fn.n - fn.ps) .no) s.enter <;> rfl))
theorem callF_lam {P : Prog} {n l : Nat} {ws as : List Sl} {s : St} {lm : Lam} (h : P.lams[l]? = some lm) : callF P (n + 1) (.lam l ws) as s = runL lm (callF P n) ws as s := by
  simp only [callF, h, runL, retL]
  all_goals (split <;> first | rfl | (cases ev (callF P n) lm.body (as ++ (ws ++ List.replicate (lm.n - as.length - ws.length) .no)) s.enter <;> rfl))
/-- a value without anything that was made here -/
def X.lo (n : Nat) : X → Bool
  | .v d => D.lo n d
  | .n ds => D.loL n ds
theorem leave_same {kp : Bool} {s : St} {x : X} (h : X.lo s.objs.length x = true) : leaveX kp s x ⟨s.objs, none⟩ = .ok x s := by
  have e : (⟨s.objs.take s.objs.length, s.esc⟩ : St) = s := by rw [List.take_length]
  unfold leaveX
  split
  · have hr : X.res s.objs s.objs.length x = some x := by
      cases x with
      | n ds => simp only [X.lo] at h; simp [X.res, h]
      | v d =>
        simp only [X.lo] at h
        cases d with
        | ref k =>
          simp only [D.lo, decide_eq_true_eq] at h
          simp only [X.res]
          rw [if_pos h]
        | _ => simp only [X.res]; rw [if_pos h]
    rw [hr]
    simp only [e]
  · obtain ⟨o, z⟩ := s
    cases z <;> rfl
theorem leaveR_same {s : St} {c : Nat} {w : D} (h : D.lo s.objs.length w = true) : leaveR s c w ⟨s.objs, none⟩ = .rs c w s := by
  unfold leaveR
  simp [escOk, h]
@[simp] theorem lo_int {n : Nat} {m : Int} : D.lo n (.int m) = true := id rfl
@[simp] theorem lo_bl {n : Nat} {b : Bool} : D.lo n (.bl b) = true := id rfl
@[simp] theorem lo_str {n : Nat} {x : Str} : D.lo n (.str x) = true := id rfl
@[simp] theorem lo_non {n : Nat} : D.lo n .non = true := id rfl
@[simp] theorem lo_tup {n : Nat} {ds : List D} : D.lo n (.tup ds) = D.loL n ds := id rfl
@[simp] theorem lo_lst {n : Nat} {ds : List D} : D.lo n (.lst ds) = D.loL n ds := id rfl
@[simp] theorem loL_nil {n : Nat} : D.loL n [] = true := id rfl
@[simp] theorem loL_cons {n : Nat} {d : D} {ds : List D} : D.loL n (d :: ds) = (D.lo n d && D.loL n ds) := id rfl
@[simp] theorem Xlo_v {n : Nat} {d : D} : X.lo n (.v d) = D.lo n d := id rfl
@[simp] theorem Xlo_n {n : Nat} {ds : List D} : X.lo n (.n ds) = D.loL n ds := id rfl
@[simp] theorem loL_ints {n : Nat} {is : List Int} : D.loL n (is.map D.int) = true := by induction is <;> simp_all
@[simp] theorem loL_app' {n : Nat} {xs ys : List D} : D.loL n (xs ++ ys) = (D.loL n xs && D.loL n ys) := by
  induction xs with
  | nil => simp
  | cons x xs ih => simp [ih, Bool.and_assoc]
/-! ### loops -/
/-- what is wanted of a turn -/
def stepO (I : Env → St → Prop) (Q : O → Prop) : O → Prop
  | .nx e t => I e t
  | .ct e t => I e t
  | .br e t => Q (.nx e t)
  | .rt x t => Q (.rt x t)
  | .rs c w e t => Q (.rs c w e t)
  | .bad => False
section
variable {I : Env → St → Prop} {Q : O → Prop} {e : Env} {t : St}
@[simp] theorem stepO_nx : stepO I Q (.nx e t) = I e t := id rfl
@[simp] theorem stepO_ct : stepO I Q (.ct e t) = I e t := id rfl
@[simp] theorem stepO_br : stepO I Q (.br e t) = Q (.nx e t) := id rfl
@[simp] theorem stepO_rt {x : X} : stepO I Q (.rt x t) = Q (.rt x t) := id rfl
@[simp] theorem stepO_rs {c : Nat} {w : D} : stepO I Q (.rs c w e t) = Q (.rs c w e t) := id rfl
end
/-- a for, by an invariant of (turn, slots, store); Q: what is wanted of its end -/
theorem frL_wp {S : St → Bool} {f : D → Env → St → O} {Q : O → Prop} (I : Nat → Env → St → Prop) : ∀ (ds : List D) (k : Nat) (env : Env) (s : St), I k env s → (∀ i env s, I i env s → S s = true) →
    (∀ i d env s, ds[i]? = some d → I (k + i) env s → stepO (I (k + i + 1)) Q (f d env s)) → (∀ env s, I (k + ds.length) env s → Q (.nx env s)) → Q (frL S f ds env s)
  | [], k, env, s, h0, hS, _, hend => by
    unfold frL
    rw [hS _ _ _ h0, if_pos rfl]
    exact hend env s h0
  | d :: ds, k, env, s, h0, hS, step, hend => by
    unfold frL
    rw [hS _ _ _ h0, if_pos rfl]
    have z := step 0 d env s rfl h0
    have more : ∀ e t, I (k + 0 + 1) e t → Q (frL S f ds e t) := fun e t h => frL_wp I ds (k + 1) e t h hS
      (fun i x e t hx hi => by
        have q := step (i + 1) x e t (by simpa using hx) (by rwa [show k + (i + 1) = k + 1 + i by omega])
        rwa [show k + (i + 1) = k + 1 + i by omega] at q)
      (fun e t h => hend e t (by rwa [show k + (d :: ds).length = k + 1 + ds.length by simp only [List.length_cons]; omega]))
    cases e : f d env s with
    | nx env' s' => rw [e] at z; exact more env' s' z
    | ct env' s' => rw [e] at z; exact more env' s' z
    | br env' s' => rw [e] at z; exact z
    | rt x s' => rw [e] at z; exact z
    | rs c w env' s' => rw [e] at z; exact z
    | bad => rw [e] at z; exact z.elim
/-- a while, by an invariant and a number that falls -/
theorem whL_wp {c : Env → St → R Bool} {f : Env → St → O} {Q : O → Prop} (I : Env → St → Prop) (μ : Env → Nat) : ∀ (n : Nat) (env : Env) (s : St), I env s → μ env < n →
    (∀ env s, I env s → ∃ b s1, c env s = .ok b s1 ∧ if b = true then stepO (fun e t => I e t ∧ μ e < μ env) Q (f env s1) else Q (.nx env s1)) → Q (whL c f n env s)
  | 0, env, s, _, lt, _ => absurd lt (Nat.not_lt_zero _)
  | n + 1, env, s, h0, lt, step => by
    unfold whL
    obtain ⟨b, s1, e1, h⟩ := step env s h0
    rw [e1]
    show Q (if b = true then _ else _)
    cases b with
    | false => exact h
    | true =>
      rw [if_pos rfl] at h ⊢
      have more : ∀ e t, I e t ∧ μ e < μ env → Q (whL c f n e t) := fun e t h => whL_wp I μ n e t h.1 (by omega) step
      cases e : f env s1 with
      | nx env' s' => rw [e] at h; exact more env' s' h
      | ct env' s' => rw [e] at h; exact more env' s' h
      | br env' s' => rw [e] at h; exact h
      | rt x s' => rw [e] at h; exact h
      | rs c w env' s' => rw [e] at h; exact h
      | bad => rw [e] at h; exact h.elim
/-- a for, then the rest -/
theorem for_wp {S : St → Bool} {f : D → Env → St → O} {G : O → Prop} {k : Env → St → O} {ds : List D} {env : Env} {s : St} (I : Nat → Env → St → Prop) (h0 : I 0 env s) (hS : ∀ i env s, I i env s → S s = true)
    (step : ∀ i d env s, ds[i]? = some d → I i env s → stepO (I (i + 1)) (fun o => G (seqO o k)) (f d env s)) (hend : ∀ env s, I ds.length env s → G (k env s)) : G (seqO (frL S f ds env s) k) :=
  frL_wp (Q := fun o => G (seqO o k)) I ds 0 env s h0 hS (fun i d env s hd hi => by
    have q := step i d env s hd (by rwa [Nat.zero_add] at hi)
    rwa [show 0 + i + 1 = i + 1 by omega]) fun env s hi => hend env s (by rwa [Nat.zero_add] at hi)
/-- a for at the end -/
theorem for_end {S : St → Bool} {f : D → Env → St → O} {G : O → Prop} {ds : List D} {env : Env} {s : St} (I : Nat → Env → St → Prop) (h0 : I 0 env s) (hS : ∀ i env s, I i env s → S s = true)
    (step : ∀ i d env s, ds[i]? = some d → I i env s → stepO (I (i + 1)) G (f d env s)) (hend : ∀ env s, I ds.length env s → G (.nx env s)) : G (frL S f ds env s) :=
  frL_wp (Q := G) I ds 0 env s h0 hS (fun i d env s hd hi => by
    have q := step i d env s hd (by rwa [Nat.zero_add] at hi)
    rwa [show 0 + i + 1 = i + 1 by omega]) fun env s hi => hend env s (by rwa [Nat.zero_add] at hi)
/-- a while, then the rest -/
theorem wh_wp {c : Env → St → R Bool} {f : Env → St → O} {G : O → Prop} {k : Env → St → O} {n : Nat} {env : Env} {s : St} (I : Env → St → Prop) (μ : Env → Nat) (h0 : I env s) (hn : μ env < n)
    (step : ∀ env s, I env s → ∃ b s1, c env s = .ok b s1 ∧ if b = true then stepO (fun e t => I e t ∧ μ e < μ env) (fun o => G (seqO o k)) (f env s1) else G (k env s1)) : G (seqO (whL c f n env s) k) :=
  whL_wp (Q := fun o => G (seqO o k)) I μ n env s h0 hn step
@[simp] theorem still_tup {o0 o1 : List Ob} {xs ds : List D} : still o0 o1 (.tup xs :: ds) = still o0 o1 ds := id rfl
@[simp] theorem still_lst {o0 o1 : List Ob} {xs ds : List D} : still o0 o1 (.lst xs :: ds) = still o0 o1 ds := id rfl
@[simp] theorem still_int {o0 o1 : List Ob} {i : Int} {ds : List D} : still o0 o1 (.int i :: ds) = still o0 o1 ds := id rfl
@[simp] theorem still_scr {o0 o1 : List Ob} {xs ds : List D} : still o0 o1 (.scr xs :: ds) = still o0 o1 ds := id rfl
@[simp] theorem still_none {o0 o1 : List Ob} : still o0 o1 [] = true := id rfl
theorem items_rng1 {objs : List Ob} {b : Int} (h : -(2 ^ 62) ≤ b ∧ b < 2 ^ 62) : items objs .rng1 [.int b] = some (rngL 0 b) := by
  have h1 : decide (-(2 ^ 62) ≤ b) = true := decide_eq_true h.1
  have h2 : decide (b < 2 ^ 62) = true := decide_eq_true h.2
  show (if (decide (-(2 ^ 62) ≤ b) && decide (b < 2 ^ 62)) = true then some (rngL 0 b) else none) = _
  rw [h1, h2]
  rfl
theorem items_rng2 {objs : List Ob} {a b : Int} (h : -(2 ^ 62) ≤ a ∧ a < 2 ^ 62) (h' : -(2 ^ 62) ≤ b ∧ b < 2 ^ 62) : items objs .rng2 [.int a, .int b] = some (rngL a b) := by
  have h1 : decide (-(2 ^ 62) ≤ a) = true := decide_eq_true h.1
  have h2 : decide (a < 2 ^ 62) = true := decide_eq_true h.2
  have h3 : decide (-(2 ^ 62) ≤ b) = true := decide_eq_true h'.1
  have h4 : decide (b < 2 ^ 62) = true := decide_eq_true h'.2
  show (if (decide (-(2 ^ 62) ≤ a) && decide (a < 2 ^ 62) && decide (-(2 ^ 62) ≤ b) && decide (b < 2 ^ 62)) = true then some (rngL a b) else none) = _
  rw [h1, h2, h3, h4]
  rfl
@[simp] theorem items_tup {objs : List Ob} {xs : List D} : items objs .e [.tup xs] = some xs := id rfl
@[simp] theorem items_lst {objs : List Ob} {xs : List D} : items objs .e [.lst xs] = some xs := id rfl
@[simp] theorem items_scr {objs : List Ob} {xs : List D} : items objs .e [.scr xs] = some xs := id rfl
@[simp] theorem items_enmT {objs : List Ob} {xs : List D} : items objs .enm [.tup xs] = some (xs.zipIdx.map fun p => .tup [.int p.2, p.1]) := id rfl
@[simp] theorem items_enmL {objs : List Ob} {xs : List D} : items objs .enm [.lst xs] = some (xs.zipIdx.map fun p => .tup [.int p.2, p.1]) := id rfl
theorem rng_at {a b : Int} {i : Nat} {d : D} (h : (rngL a b)[i]? = some d) : i < (b - a).toNat ∧ d = .int (a + (i : Int)) := by
  simp only [rngL, List.getElem?_map] at h
  cases e : (List.range (b - a).toNat)[i]? with
  | none => rw [e] at h; cases h
  | some j =>
    rw [e] at h
    obtain ⟨l, q⟩ := List.getElem?_eq_some_iff.mp e
    simp only [List.getElem_range] at q
    simp only [List.length_range] at l
    subst q
    cases h
    exact ⟨l, rfl⟩
@[simp] theorem rng_len {a b : Int} : (rngL a b).length = (b - a).toNat := by simp [rngL]
theorem enm_at {is : List D} {i : Nat} {d : D} (h : (is.zipIdx.map fun p => D.tup [.int p.2, p.1])[i]? = some d) : ∃ x, is[i]? = some x ∧ d = .tup [.int (i : Nat), x] := by
  rw [List.getElem?_map, List.getElem?_zipIdx] at h
  cases e : is[i]? with
  | none => rw [e] at h; cases h
  | some x =>
    rw [e] at h
    cases h
    exact ⟨x, rfl, by simp⟩
/-- an index from 0 on -/
theorem idx_nat {objs : List Ob} {xs : List D} {i : Nat} {d x : D} (hx : seqOf objs x = some xs) (h : xs[i]? = some d) : idx objs x (.int (i : Int)) = some d := by
  have l := (List.getElem?_eq_some_iff.mp h).1
  simp only [idx, hx]
  show L2.atI xs (i : Int) = some d
  unfold L2.atI L2.ixN
  rw [if_pos (Int.natCast_nonneg i), if_pos (by exact_mod_cast l)]
  exact h
@[simp] theorem intL_ints {is : List Int} : intL (is.map D.int) = some is := by
  induction is with
  | nil => rfl
  | cons i is ih => simp only [List.map_cons, intL, ih, Option.map_some]
end Ev

set_option Elab.async false
set_option linter.all false
set_option maxRecDepth 100000
/-! EvR: values as data, their texts -/
namespace Ev
open PySem
mutual
/-- the value as data -/
def pd : D → PyData
  | .non => .none
  | .bl b => .bool b
  | .int i => .int i
  | .str x => .str x
  | .tup ds => .tuple (pdL ds)
  | .lst ds => .list (pdL ds)
  | .scr ds => .list (pdL ds)
  | .ref _ => .none
def pdL : List D → List PyData
  | [] => []
  | d :: ds => pd d :: pdL ds
end
mutual
/-- no references, nested at most f deep -/
def pdOk : Nat → D → Bool
  | _, .non => true
  | _, .bl _ => true
  | _, .int _ => true
  | _, .str _ => true
  | f + 1, .tup ds => pdOkL f ds
  | f + 1, .lst ds => pdOkL f ds
  | 0, .tup _ => false
  | 0, .lst _ => false
  | _, .scr _ => false
  | _, .ref _ => false
def pdOkL : Nat → List D → Bool
  | _, [] => true
  | f, d :: ds => pdOk f d && pdOkL f ds
end
mutual
/-- the ints are small, the texts' signs right -/
def okI : D → Bool
  | .int i => decide (-(2 ^ 200) < i) && decide (i < 2 ^ 200)
  | .str x => PyData.strOk x
  | .tup ds => okIL ds
  | .lst ds => okIL ds
  | .non => true | .bl _ => true | .scr _ => true | .ref _ => true
def okIL : List D → Bool
  | [] => true
  | d :: ds => okI d && okIL ds
end
mutual
/-- at least the length of the text -/
def szD : D → Nat
  | .non => 4
  | .bl _ => 5
  | .int _ => 1921
  | .str x => (reprText x).length
  | .tup ds => szL ds + 3
  | .lst ds => szL ds + 2
  | .scr _ => 0
  | .ref _ => 0
def szL : List D → Nat
  | [] => 0
  | d :: ds => szD d + 2 + szL ds
end
mutual
theorem toP_ok {objs : List Ob} : ∀ {f : Nat} {d : D}, pdOk f d = true → D.toP objs f d = some (pd d)
  | _, .non, _ => by simp only [D.toP, pd]
  | _, .bl _, _ => by simp only [D.toP, pd]
  | _, .int _, _ => by simp only [D.toP, pd]
  | _, .str _, _ => by simp only [D.toP, pd]
  | f + 1, .tup ds, h => by
    simp only [pdOk] at h
    simp only [D.toP, pd, toPL_ok h, Option.map_some]
  | f + 1, .lst ds, h => by
    simp only [pdOk] at h
    simp only [D.toP, pd, toPL_ok h, Option.map_some]
  | 0, .tup _, h => by simp only [pdOk, Bool.false_eq_true] at h
  | 0, .lst _, h => by simp only [pdOk, Bool.false_eq_true] at h
  | 0, .scr _, h => by simp only [pdOk, Bool.false_eq_true] at h
  | f + 1, .scr _, h => by simp only [pdOk, Bool.false_eq_true] at h
  | 0, .ref _, h => by simp only [pdOk, Bool.false_eq_true] at h
  | f + 1, .ref _, h => by simp only [pdOk, Bool.false_eq_true] at h
theorem toPL_ok {objs : List Ob} : ∀ {f : Nat} {ds : List D}, pdOkL f ds = true → ds.mapM (D.toP objs f) = some (pdL ds)
  | _, [], _ => by simp [pdL]
  | f, d :: ds, h => by
    simp only [pdOkL, Bool.and_eq_true] at h
    rw [List.mapM_cons, toP_ok h.1, toPL_ok h.2]
    rfl
end
mutual
theorem depth_ok : ∀ {f : Nat} {d : D}, pdOk f d = true → (pd d).depth ≤ f
  | _, .non, _ => Nat.zero_le _
  | _, .bl _, _ => Nat.zero_le _
  | _, .int _, _ => Nat.zero_le _
  | _, .str _, _ => Nat.zero_le _
  | f + 1, .tup ds, h => by
    simp only [pdOk] at h
    have := depthL_ok h
    simp only [pd, PyData.depth]
    omega
  | f + 1, .lst ds, h => by
    simp only [pdOk] at h
    have := depthL_ok h
    simp only [pd, PyData.depth]
    omega
  | 0, .tup _, h => by simp only [pdOk, Bool.false_eq_true] at h
  | 0, .lst _, h => by simp only [pdOk, Bool.false_eq_true] at h
  | 0, .scr _, h => by simp only [pdOk, Bool.false_eq_true] at h
  | f + 1, .scr _, h => by simp only [pdOk, Bool.false_eq_true] at h
  | 0, .ref _, h => by simp only [pdOk, Bool.false_eq_true] at h
  | f + 1, .ref _, h => by simp only [pdOk, Bool.false_eq_true] at h
theorem depthL_ok : ∀ {f : Nat} {ds : List D}, pdOkL f ds = true → PyData.depthAll (pdL ds) ≤ f
  | f, [], _ => by simp [pdL, PyData.depthAll]
  | f, d :: ds, h => by
    simp only [pdOkL, Bool.and_eq_true] at h
    have h1 := depth_ok h.1
    have h2 := depthL_ok h.2
    simp only [pdL, PyData.depthAll]
    omega
end
theorem natLog {i : Int} (h1 : -(2 ^ 200) < i) (h2 : i < 2 ^ 200) : i.natAbs.log2 < 200 := by
  by_cases z : i.natAbs = 0
  · rw [z]; decide
  · exact (Nat.log2_lt z).mpr (by
      have e : ((2 : Int) ^ 200) = ((2 ^ 200 : Nat) : Int) := by norm_cast
      rw [e] at h1 h2
      omega)
mutual
theorem canLay_ok : ∀ {f : Nat} {d : D}, pdOk f d = true → okI d = true → (pd d).canLay0 = true
  | _, .non, _, _ => rfl
  | _, .bl _, _, _ => rfl
  | _, .int _, _, _ => rfl
  | _, .str x, _, h => by simpa only [pd, PyData.canLay0, okI] using h
  | f + 1, .tup ds, h, k => by
    simp only [pdOk] at h
    simp only [okI] at k
    simpa only [pd, PyData.canLay0] using canLayL_ok h k
  | f + 1, .lst ds, h, k => by
    simp only [pdOk] at h
    simp only [okI] at k
    simpa only [pd, PyData.canLay0] using canLayL_ok h k
  | 0, .tup _, h, _ => by simp only [pdOk, Bool.false_eq_true] at h
  | 0, .lst _, h, _ => by simp only [pdOk, Bool.false_eq_true] at h
  | 0, .scr _, h, _ => by simp only [pdOk, Bool.false_eq_true] at h
  | f + 1, .scr _, h, _ => by simp only [pdOk, Bool.false_eq_true] at h
  | 0, .ref _, h, _ => by simp only [pdOk, Bool.false_eq_true] at h
  | f + 1, .ref _, h, _ => by simp only [pdOk, Bool.false_eq_true] at h
theorem canLayL_ok : ∀ {f : Nat} {ds : List D}, pdOkL f ds = true → okIL ds = true → PyData.canLayAll0 (pdL ds) = true
  | f, [], _, _ => by simp [pdL, PyData.canLayAll0]
  | f, d :: ds, h, k => by
    simp only [pdOkL, Bool.and_eq_true] at h
    simp only [okIL, Bool.and_eq_true] at k
    simp only [pdL, PyData.canLayAll0, canLay_ok h.1 k.1, canLayL_ok h.2 k.2, Bool.and_self]
end
mutual
theorem showable_ok : ∀ {f : Nat} {d : D}, pdOk f d = true → okI d = true → (pd d).showable = true
  | _, .non, _, _ => rfl
  | _, .bl _, _, _ => rfl
  | _, .int i, _, h => by
    simp only [okI, Bool.and_eq_true, decide_eq_true_eq] at h
    have := natLog h.1 h.2
    simp only [pd, PyData.showable, decide_eq_true_eq]
    omega
  | _, .str x, _, h => rfl
  | f + 1, .tup ds, h, k => by
    simp only [pdOk] at h
    simp only [okI] at k
    simpa only [pd, PyData.showable] using showableL_ok h k
  | f + 1, .lst ds, h, k => by
    simp only [pdOk] at h
    simp only [okI] at k
    simpa only [pd, PyData.showable] using showableL_ok h k
  | 0, .tup _, h, _ => by simp only [pdOk, Bool.false_eq_true] at h
  | 0, .lst _, h, _ => by simp only [pdOk, Bool.false_eq_true] at h
  | 0, .scr _, h, _ => by simp only [pdOk, Bool.false_eq_true] at h
  | f + 1, .scr _, h, _ => by simp only [pdOk, Bool.false_eq_true] at h
  | 0, .ref _, h, _ => by simp only [pdOk, Bool.false_eq_true] at h
  | f + 1, .ref _, h, _ => by simp only [pdOk, Bool.false_eq_true] at h
theorem showableL_ok : ∀ {f : Nat} {ds : List D}, pdOkL f ds = true → okIL ds = true → PyData.showableAll (pdL ds) = true
  | f, [], _, _ => by simp [pdL, PyData.showableAll]
  | f, d :: ds, h, k => by
    simp only [pdOkL, Bool.and_eq_true] at h
    simp only [okIL, Bool.and_eq_true] at k
    simp only [pdL, PyData.showableAll, showable_ok h.1 k.1, showableL_ok h.2 k.2, Bool.and_self]
end
theorem tupleText_le (ts : List Str) : (tupleText ts).length ≤ piled ts + 3 := by
  unfold tupleText
  rw [strLen_append, strLen_append]
  have e1 : ((("(" : String) : Str)).length = 1 := rfl
  have e3 : (((if ts.length == 1 then ",)" else ")" : String) : Str)).length ≤ 2 := by split <;> decide
  rw [e1]
  by_cases h : ts = []
  · subst h
    have : (Str.join ", " []).length = 0 := rfl
    omega
  · have := join_length_add ts h
    omega
theorem textFrom_le : ∀ (ts : List Str) (k : Nat) (acc : Str), (textFrom k acc ts).length ≤ acc.length + piled ts
  | [], _, acc => by show acc.length ≤ acc.length + 0; omega
  | t :: r, k, acc => by
    have ih := textFrom_le r (k + 1) (acc ++ (if k > 0 then ", " else "" : String) ++ t)
    have e : (acc ++ (if k > 0 then ", " else "" : String) ++ t).length ≤ acc.length + 2 + t.length := by
      rw [strLen_append, strLen_append]
      have : (((if k > 0 then ", " else "" : String) : Str)).length ≤ 2 := by split <;> decide
      omega
    rw [piled_cons]
    show (textFrom (k + 1) _ r).length ≤ _
    omega
theorem listText_le (ts : List Str) : (listText ts).length ≤ piled ts + 2 := by
  unfold listText
  rw [strLen_append]
  have := textFrom_le ts 0 "["
  have e1 : ((("[" : String) : Str)).length = 1 := rfl
  have e2 : ((("]" : String) : Str)).length = 1 := rfl
  omega
mutual
theorem shown_le : ∀ {f : Nat} {d : D}, pdOk f d = true → okI d = true → (pd d).shown.length ≤ szD d
  | _, .non, _, _ => by simp only [pd, PyData.shown, szD]; decide
  | _, .bl b, _, _ => by cases b <;> simp only [pd, PyData.shown, szD] <;> decide
  | _, .int i, _, h => by
    simp only [okI, Bool.and_eq_true, decide_eq_true_eq] at h
    have := natLog h.1 h.2
    simp only [pd, PyData.shown, szD]
    exact PyProof.Rows.int_text_len_1921 (by omega)
  | _, .str x, _, h => by simp only [pd, PyData.shown, szD]; exact Nat.le_refl _
  | f + 1, .tup ds, h, k => by
    simp only [pdOk] at h
    simp only [okI] at k
    simp only [pd, PyData.shown, szD]
    exact Nat.le_trans (tupleText_le _) (Nat.add_le_add_right (shownL_le h k) 3)
  | f + 1, .lst ds, h, k => by
    simp only [pdOk] at h
    simp only [okI] at k
    simp only [pd, PyData.shown, szD]
    exact Nat.le_trans (listText_le _) (Nat.add_le_add_right (shownL_le h k) 2)
  | 0, .tup _, h, _ => by simp only [pdOk, Bool.false_eq_true] at h
  | 0, .lst _, h, _ => by simp only [pdOk, Bool.false_eq_true] at h
  | 0, .scr _, h, _ => by simp only [pdOk, Bool.false_eq_true] at h
  | f + 1, .scr _, h, _ => by simp only [pdOk, Bool.false_eq_true] at h
  | 0, .ref _, h, _ => by simp only [pdOk, Bool.false_eq_true] at h
  | f + 1, .ref _, h, _ => by simp only [pdOk, Bool.false_eq_true] at h
theorem shownL_le : ∀ {f : Nat} {ds : List D}, pdOkL f ds = true → okIL ds = true → piled (PyData.shownAll (pdL ds)) ≤ szL ds
  | f, [], _, _ => by simp [pdL, PyData.shownAll, piled_nil]
  | f, d :: ds, h, k => by
    simp only [pdOkL, Bool.and_eq_true] at h
    simp only [okIL, Bool.and_eq_true] at k
    have h1 := shown_le h.1 k.1
    have h2 := shownL_le h.2 k.2
    simp only [pdL, PyData.shownAll, piled_cons, szL]
    omega
end
/-- what repr takes -/
def rpOk (d : D) : Bool := !scal d && pdOk fuelP d && okI d && decide (szD d ≤ sizeLine)
theorem bi_repr {objs : List Ob} {d : D} (h : rpOk d = true) : bi objs .repr [d] = some (.v (.str (pd d).shown)) := by
  simp only [rpOk, Bool.and_eq_true, Bool.not_eq_true', decide_eq_true_eq] at h
  obtain ⟨⟨⟨h1, h2⟩, h3⟩, h4⟩ := h
  have e1 : D.toP objs fuelP d = some (pd d) := toP_ok h2
  have e2 := Nat.le_trans (shown_le h2 h3) h4
  have e3 := depth_ok h2
  have e4 := showable_ok h2 h3
  simp only [bi, e1, h1, e4, Bool.not_false, Bool.true_and]
  rw [if_pos]
  simp only [Bool.and_eq_true, decide_eq_true_eq]
  exact ⟨e2, Nat.le_trans e3 (by decide)⟩
theorem c_eqS {objs : List Ob} {x y : Str} : cmp objs .eq (.str x) (.str y) = some (x == y) := rfl
theorem c_neS {objs : List Ob} {x y : Str} : cmp objs .ne (.str x) (.str y) = some (x != y) := rfl
/-- two values compared -/
theorem c_eqD {objs : List Ob} {x y : D} (h1 : pdOk fuelP x = true) (h2 : okI x = true) (h3 : pdOk fuelP y = true) (h4 : okI y = true) : cmp objs .eq x y = some (PyData.eqv (pd x) (pd y)) := by
  have s1 : SeqAt.shaped (pd x) = true := by
    unfold SeqAt.shaped
    rw [canLay_ok h1 h2, Bool.true_and]
    exact decide_eq_true (Nat.le_trans (depth_ok h1) (by decide))
  have s2 : SeqAt.shaped (pd y) = true := by
    unfold SeqAt.shaped
    rw [canLay_ok h3 h4, Bool.true_and]
    exact decide_eq_true (Nat.le_trans (depth_ok h3) (by decide))
  have g : eqdG objs x y = some (PyData.eqv (pd x) (pd y)) := by
    simp only [eqdG, toP_ok h1, toP_ok h3, s1, s2, Bool.and_self, if_true]
  show eqd objs x y = _
  unfold eqd
  split
  · simp only [pd, PyData.eqv]
  · exact g
theorem c_neD {objs : List Ob} {x y : D} (h1 : pdOk fuelP x = true) (h2 : okI x = true) (h3 : pdOk fuelP y = true) (h4 : okI y = true) : cmp objs .ne x y = some (!PyData.eqv (pd x) (pd y)) := by
  show (cmp objs .eq x y).map (!·) = _
  rw [c_eqD h1 h2 h3 h4]
  rfl
/-! ### lists of ints -/
@[simp] theorem pdOkL_ints {f : Nat} {is : List Int} : pdOkL f (is.map D.int) = true := by
  induction is with
  | nil => simp only [List.map_nil, pdOkL]
  | cons i is ih => cases f <;> simp only [List.map_cons, pdOkL, pdOk, ih, Bool.and_self]
theorem okIL_ints {is : List Int} (h : ∀ i ∈ is, -(2 ^ 200) < i ∧ i < 2 ^ 200) : okIL (is.map D.int) = true := by
  induction is with
  | nil => simp only [List.map_nil, okIL]
  | cons i is ih =>
    have h1 := h i (List.mem_cons_self ..)
    have a1 : decide (-(2 ^ 200) < i) = true := decide_eq_true h1.1
    have a2 : decide (i < 2 ^ 200) = true := decide_eq_true h1.2
    simp only [List.map_cons, okIL, okI, ih fun j m => h j (List.mem_cons_of_mem _ m), a1, a2, Bool.and_self]
theorem szL_ints {is : List Int} : szL (is.map D.int) = 1923 * is.length := by
  induction is with
  | nil => simp only [List.map_nil, szL, List.length_nil]
  | cons i is ih =>
    simp only [List.map_cons, szL, szD, ih, List.length_cons]
    omega
end Ev

set_option linter.all false
set_option maxRecDepth 100000
namespace Ev
open PySem
def b_is_number : S := .ret (.and (.bc .isI (.cons (.loc 0) (.nil))) (.not (.bc .isB (.cons (.loc 0) (.nil)))))
def f_is_number : Fn := { ps := 1, n := 1, body := b_is_number }
def b_is_between : S := .ret (.and (.call 0 (.cons (.loc 0) (.nil))) (.chn .le .le (.loc 1) (.loc 0) (.loc 2)))
def f_is_between : Fn := { ps := 3, n := 3, body := b_is_between }
def b_is_tuple_of : S := .ret (.and (.bc .isT (.cons (.loc 0) (.nil))) (.chn .le .le (.loc 1) (.bc .len (.cons (.loc 0) (.nil))) (.loc 2)))
def f_is_tuple_of : Fn := { ps := 3, n := 3, body := b_is_tuple_of }
def b_check_many : S := .ife (.not (.call 1 (.cons (.loc 0) (.cons (.loc 1) (.cons (.loc 2) (.nil)))))) (.rais 5 (.cst (.int 0))) (.skip)
def f_check_many : Fn := { ps := 3, n := 3, body := b_check_many }
def b_lowest : S := .seq (.asg (.nm 2) (.bc .gcd (.cons (.loc 0) (.cons (.loc 1) (.nil))))) (.ret (.tup (.cons (.bin .fdiv (.loc 0) (.loc 2)) (.cons (.bin .fdiv (.loc 1) (.loc 2)) (.nil)))))
def f_lowest : Fn := { ps := 2, n := 3, body := b_lowest }
def b_made_k : S := .seq (.ife (.not (.call 1 (.cons (.loc 0) (.cons (.cst (.int 1)) (.cons (.cst (.int 60)) (.nil)))))) (.rais 1 (.cst (.int 0))) (.skip)) (.ret (.loc 0))
def f_made_k : Fn := { ps := 1, n := 1, body := b_made_k }
def b_wrong_row : S := .seq (.ife (.not (.call 2 (.cons (.loc 0) (.cons (.cst (.int 0)) (.cons (.cst (.int 24)) (.nil)))))) (.ret (.neg (.cst (.int 1)))) (.skip)) (.seq (.fr (.nm 1) .rng1 (.cons (.bc .len (.cons (.loc 0) (.nil))) (.nil)) (.ife (.not (.call 1 (.cons (.idx (.loc 0) (.loc 1)) (.cons (.cst (.int 1)) (.cons (.cst (.int 99)) (.nil)))))) (.ret (.loc 1)) (.skip))) (.ret (.cst (.non))))
def f_wrong_row : Fn := { ps := 1, n := 2, body := b_wrong_row }
def b_made_row : S := .seq (.asg (.nm 1) (.call 6 (.cons (.loc 0) (.nil)))) (.seq (.ife (.cmp .isn (.loc 1) (.cst (.non))) (.rais 2 (.loc 1)) (.skip)) (.ret (.loc 0)))
def f_made_row : Fn := { ps := 1, n := 2, body := b_made_row }
def b_thickness_of : S := .seq (.asg (.nm 2) (.bin .mul (.cst (.int 2)) (.bc .sum (.cons (.loc 1) (.nil))))) (.ret (.bin .sub (.bin .fdiv (.bin .sub (.bin .add (.loc 2) (.bc .len (.cons (.loc 1) (.nil)))) (.cst (.int 1))) (.bc .len (.cons (.loc 1) (.nil)))) (.loc 0)))
def f_thickness_of : Fn := { ps := 2, n := 3, body := b_thickness_of }
def b_thickness : S := .seq (.ex (.call 5 (.cons (.loc 0) (.nil)))) (.seq (.ex (.call 7 (.cons (.loc 1) (.nil)))) (.seq (.ife (.cmp .eq (.loc 1) (.tup (.nil))) (.rais 4 (.cst (.int 0))) (.skip)) (.ret (.call 8 (.cons (.loc 0) (.cons (.loc 1) (.nil)))))))
def f_thickness : Fn := { ps := 2, n := 2, body := b_thickness }
def b_made_ts : S := .seq (.ife (.not (.call 2 (.cons (.loc 0) (.cons (.cst (.int 1)) (.cons (.cst (.int 8)) (.nil)))))) (.rais 7 (.neg (.cst (.int 1)))) (.skip)) (.seq (.fr (.tup (.nm 1) (.tup (.nm 2) (.nil))) .enm (.cons (.loc 0) (.nil)) (.ife (.not (.call 1 (.cons (.loc 2) (.cons (.cst (.int 1)) (.cons (.cst (.int 60)) (.nil)))))) (.rais 7 (.loc 1)) (.skip))) (.ret (.loc 0)))
def f_made_ts : Fn := { ps := 1, n := 3, body := b_made_ts }
def b_spare_of : S := .ret (.bin .sub (.bin .add (.loc 0) (.bc .max1 (.cons (.bin .add (.loc 1) (.tup (.cons (.cst (.int 0)) (.nil)))) (.nil)))) (.bin .mul (.cst (.int 2)) (.bc .sum (.cons (.loc 1) (.nil)))))
def f_spare_of : Fn := { ps := 2, n := 2, body := b_spare_of }
def b_spare : S := .ret (.call 11 (.cons (.call 5 (.cons (.loc 0) (.nil))) (.cons (.call 10 (.cons (.loc 1) (.nil))) (.nil))))
def f_spare : Fn := { ps := 2, n := 2, body := b_spare }
def b_fits : S := .ret (.cmp .ge (.call 12 (.cons (.loc 0) (.cons (.loc 1) (.nil)))) (.cst (.int 0)))
def f_fits : Fn := { ps := 2, n := 2, body := b_fits }
def b_most : S := .seq (.ex (.call 5 (.cons (.loc 0) (.nil)))) (.seq (.ex (.call 3 (.cons (.loc 1) (.cons (.cst (.int 1)) (.cons (.cst (.int 30)) (.nil)))))) (.ret (.bin .fdiv (.loc 0) (.bin .sub (.bin .mul (.cst (.int 2)) (.loc 1)) (.cst (.int 1))))))
def f_most : Fn := { ps := 2, n := 2, body := b_most }
def b_least_density : S := .seq (.asg (.nm 2) (.call 14 (.cons (.loc 0) (.cons (.loc 1) (.nil))))) (.ret (.ite (.cmp .eq (.loc 2) (.cst (.int 0))) (.cst (.non)) (.call 4 (.cons (.cst (.int 2)) (.cons (.bin .add (.loc 0) (.loc 2)) (.nil))))))
def f_least_density : Fn := { ps := 2, n := 3, body := b_least_density }
def b_law_pool : S := .seq (.asg (.nm 1) (.ite (.cmp .gt (.bc .len (.cons (.loc 0) (.nil))) (.cst (.int 0))) (.bc .int (.cons (.idx (.loc 0) (.cst (.int 0))) (.nil))) (.cst (.int 0)))) (.seq (.asg (.nm 2) (.ite (.cmp .ge (.loc 1) (.cst (.int 0))) (.bin .mul (.cst (.int 2)) (.loc 1)) (.bin .sub (.neg (.cst (.int 1))) (.bin .mul (.cst (.int 2)) (.loc 1))))) (.ret (.lst (.cons (.ite (.cmp .ge (.loc 2) (.bin .pow (.cst (.int 10)) (.cst (.int 18)))) (.loc 2) (.cst (.int 0))) (.cons (.bin .add (.bin .mod (.bc .int (.cons (.bin .add (.bin .mul (.loc 2) (.cst (.int 48271))) (.cst (.int 1009))) (.nil))) (.cst (.int 2147483629))) (.cst (.int 3))) (.cons (.box (.bc .list (.cons (.sl (.loc 0) (.cst (.int 1)) (.no)) (.nil)))) (.nil)))))))
def f_law_pool : Fn := { ps := 1, n := 3, body := b_law_pool, kp := true }
def b_law_draw : S := .seq (.ife (.and (.cmp .eq (.idx (.loc 0) (.cst (.int 0))) (.cst (.int 0))) (.cmp .ne (.idx (.loc 0) (.cst (.int 2))) (.lst (.nil)))) (.seq (.asg (.nm 2) (.bc .int (.cons (.mt .popi (.idx (.loc 0) (.cst (.int 2))) (.cons (.cst (.int 0)) (.nil))) (.nil)))) (.seq (.asg (.nm 3) (.ite (.cmp .ge (.loc 2) (.cst (.int 0))) (.bin .mul (.cst (.int 2)) (.loc 2)) (.bin .sub (.neg (.cst (.int 1))) (.bin .mul (.cst (.int 2)) (.loc 2))))) (.seq (.setI (.loc 0) (.cst (.int 0)) (.ite (.cmp .ge (.loc 3) (.bin .pow (.cst (.int 10)) (.cst (.int 18)))) (.loc 3) (.cst (.int 0)))) (.setI (.loc 0) (.cst (.int 1)) (.bin .add (.bin .mod (.bc .int (.cons (.bin .add (.idx (.loc 0) (.cst (.int 1))) (.bin .mul (.loc 3) (.cst (.int 69621)))) (.nil))) (.cst (.int 2147483629))) (.cst (.int 3))))))) (.skip)) (.seq (.ife (.cmp .gt (.idx (.loc 0) (.cst (.int 0))) (.cst (.int 0))) (.seq (.asg (.nm 4) (.bin .mod (.bc .int (.cons (.idx (.loc 0) (.cst (.int 0))) (.nil))) (.loc 1))) (.seq (.setI (.loc 0) (.cst (.int 0)) (.bin .fdiv (.idx (.loc 0) (.cst (.int 0))) (.loc 1))) (.ret (.loc 4)))) (.skip)) (.seq (.setI (.loc 0) (.cst (.int 1)) (.bin .mod (.bc .int (.cons (.bin .add (.bin .mul (.idx (.loc 0) (.cst (.int 1))) (.cst (.int 48271))) (.cst (.int 11))) (.nil))) (.cst (.int 2147483647)))) (.ret (.bin .mod (.bin .fdiv (.bin .mod (.bc .int (.cons (.bin .mul (.idx (.loc 0) (.cst (.int 1))) (.idx (.loc 0) (.cst (.int 1)))) (.nil))) (.cst (.int 2147483629))) (.cst (.int 32))) (.loc 1)))))
def f_law_draw : Fn := { ps := 2, n := 5, body := b_law_draw }
def b_law_row_gcd : S := .seq (.wh (.cmp .ne (.loc 1) (.cst (.int 0))) (.asg (.tup (.nm 0) (.tup (.nm 1) (.nil))) (.tup (.cons (.loc 1) (.cons (.bin .mod (.bc .int (.cons (.loc 0) (.nil))) (.loc 1)) (.nil)))))) (.ret (.loc 0))
def f_law_row_gcd : Fn := { ps := 2, n := 2, body := b_law_row_gcd }
def b_law_row_low : S := .seq (.asg (.nm 2) (.call 18 (.cons (.loc 0) (.cons (.loc 1) (.nil))))) (.ret (.tup (.cons (.bin .fdiv (.loc 0) (.loc 2)) (.cons (.bin .fdiv (.loc 1) (.loc 2)) (.nil)))))
def f_law_row_low : Fn := { ps := 2, n := 3, body := b_law_row_low }
def b_law_row_drawn : S := .seq (.asg (.tup (.nm 3) (.tup (.nm 4) (.nil))) (.tup (.cons (.call 17 (.cons (.loc 0) (.cons (.cst (.int 12)) (.nil)))) (.cons (.box (.lst (.nil))) (.nil))))) (.seq (.ife (.cmp .eq (.loc 3) (.cst (.int 0))) (.ret (.tup (.nil))) (.skip)) (.seq (.fr (.nm 5) .rng1 (.cons (.bin .add (.cst (.int 1)) (.call 17 (.cons (.loc 0) (.cons (.loc 1) (.nil))))) (.nil)) (.ex (.mt .append (.loc 4) (.cons (.bin .add (.cst (.int 1)) (.call 17 (.cons (.loc 0) (.cons (.ite (.and (.cmp .eq (.loc 3) (.cst (.int 1))) (.cmp .eq (.loc 5) (.cst (.int 0)))) (.cst (.int 99)) (.loc 2)) (.nil))))) (.nil))))) (.seq (.asg (.nm 6) (.bc .tuple (.cons (.loc 4) (.nil)))) (.ret (.ite (.and (.cmp .eq (.loc 3) (.cst (.int 2))) (.cmp .lt (.bc .len (.cons (.loc 6) (.nil))) (.cst (.int 13)))) (.bin .add (.loc 6) (.loc 6)) (.loc 6))))))
def f_law_row_drawn : Fn := { ps := 3, n := 7, body := b_law_row_drawn }
def b_law_kind_heard : S := .tri (.ret (.tup (.cons (.cst (.str "is")) (.cons (.callv 0 (.nil)) (.nil))))) [(1, "k"), (2, "row"), (3, "rows"), (6, "view"), (7, "ts"), (5, "many"), (12, "weights"), (4, "no dots"), (8, "no fit"), (13, "no room"), (9, "blank"), (10, "shared"), (11, "thin")]
def f_law_kind_heard : Fn := { ps := 1, n := 2, body := b_law_kind_heard }
def b_law_kind_no_k : S := .ret (.lst (.cons (.cst (.int 0)) (.cons (.neg (.cst (.int 1))) (.cons (.cst (.int 61)) (.cons (.cst (.bl true)) (.cons (.cst (.bl false)) (.cons (.cst (.non)) (.cons (.cst (.str "3")) (.cons (.tup (.cons (.cst (.int 3)) (.nil))) (.cons (.bin .pow (.cst (.int 10)) (.cst (.int 20))) (.nil)))))))))))
def f_law_kind_no_k : Fn := { ps := 0, n := 0, body := b_law_kind_no_k }
def b_law_kind_no_ts : S := .seq (.asg (.nm 1) (.box (.lst (.cons (.tup (.cons (.cst (.non)) (.cons (.neg (.cst (.int 1))) (.nil)))) (.cons (.tup (.cons (.tup (.nil)) (.cons (.neg (.cst (.int 1))) (.nil)))) (.cons (.tup (.cons (.cst (.int 1)) (.cons (.neg (.cst (.int 1))) (.nil)))) (.cons (.tup (.cons (.cst (.str "1")) (.cons (.neg (.cst (.int 1))) (.nil)))) (.cons (.tup (.cons (.bin .mul (.tup (.cons (.cst (.int 1)) (.nil))) (.cst (.int 9))) (.cons (.neg (.cst (.int 1))) (.nil)))) (.nil))))))))) (.seq (.fr (.nm 2) .rng1 (.cons (.bc .len (.cons (.loc 0) (.nil))) (.nil)) (.fr (.nm 3) .e (.cons (.lst (.cons (.cst (.int 0)) (.cons (.cst (.int 61)) (.cons (.neg (.cst (.int 1))) (.cons (.cst (.bl true)) (.cons (.cst (.non)) (.cons (.cst (.str "1")) (.cons (.tup (.cons (.cst (.int 1)) (.nil))) (.nil))))))))) (.nil)) (.ex (.mt .append (.loc 1) (.cons (.tup (.cons (.bin .add (.bin .add (.sl (.loc 0) (.no) (.loc 2)) (.tup (.cons (.loc 3) (.nil)))) (.bin .mul (.tup (.cons (.cst (.non)) (.nil))) (.bin .sub (.bin .sub (.bc .len (.cons (.loc 0) (.nil))) (.cst (.int 1))) (.loc 2)))) (.cons (.loc 2) (.nil)))) (.nil)))))) (.ret (.loc 1)))
def f_law_kind_no_ts : Fn := { ps := 1, n := 4, body := b_law_kind_no_ts }
def b_law_thick_counted : S := .seq (.asg (.nm 2) (.cst (.int 0))) (.seq (.fr (.nm 3) .rng1 (.cons (.cst (.int 200)) (.nil)) (.seq (.ife (.cmp .ge (.bin .mul (.loc 2) (.bc .len (.cons (.loc 1) (.nil)))) (.bin .mul (.cst (.int 2)) (.bc .sum (.cons (.loc 1) (.nil))))) (.brk) (.skip)) (.asg (.nm 2) (.bin .add (.loc 2) (.cst (.int 1)))))) (.ret (.bin .sub (.loc 2) (.loc 0))))
def f_law_thick_counted : Fn := { ps := 2, n := 4, body := b_law_thick_counted }
def b_law_thick_row_right : S := .seq (.asg (.nm 2) (.call 21 (.cons (.lam 0 [0, 1]) (.nil)))) (.ret (.cmp .eq (.bc .repr (.cons (.loc 2) (.nil))) (.bc .repr (.cons (.ite (.cmp .eq (.loc 1) (.tup (.nil))) (.tup (.cons (.cst (.str "no dots")) (.cons (.cst (.int 0)) (.nil)))) (.tup (.cons (.cst (.str "is")) (.cons (.call 24 (.cons (.loc 0) (.cons (.loc 1) (.nil)))) (.nil))))) (.nil)))))
def f_law_thick_row_right : Fn := { ps := 2, n := 3, body := b_law_thick_row_right }
def b_law_thick_ts_right : S := .seq (.asg (.nm 2) (.bin .add (.loc 0) (.bc .max1 (.cons (.loc 1) (.nil))))) (.seq (.fr (.nm 3) .e (.cons (.loc 1) (.nil)) (.asg (.nm 2) (.bin .sub (.bin .sub (.loc 2) (.loc 3)) (.loc 3)))) (.ret (.cmp .eq (.bc .repr (.cons (.lst (.cons (.call 10 (.cons (.loc 1) (.nil))) (.cons (.call 12 (.cons (.loc 0) (.cons (.loc 1) (.nil)))) (.cons (.call 13 (.cons (.loc 0) (.cons (.loc 1) (.nil)))) (.nil))))) (.nil))) (.bc .repr (.cons (.lst (.cons (.loc 1) (.cons (.loc 2) (.cons (.cmp .ge (.loc 2) (.cst (.int 0))) (.nil))))) (.nil))))))
def f_law_thick_ts_right : Fn := { ps := 2, n := 4, body := b_law_thick_ts_right }
def b_law_thick_most_right : S := .seq (.asg (.nm 2) (.cst (.int 0))) (.seq (.wh (.cmp .le (.bin .mul (.bin .sub (.bin .mul (.cst (.int 2)) (.loc 1)) (.cst (.int 1))) (.bin .add (.loc 2) (.cst (.int 1)))) (.loc 0)) (.asg (.nm 2) (.bin .add (.loc 2) (.cst (.int 1))))) (.seq (.asg (.nm 3) (.ite (.cmp .eq (.loc 2) (.cst (.int 0))) (.cst (.non)) (.call 19 (.cons (.cst (.int 2)) (.cons (.bin .add (.loc 0) (.loc 2)) (.nil)))))) (.ret (.cmp .eq (.bc .repr (.cons (.lst (.cons (.call 14 (.cons (.loc 0) (.cons (.loc 1) (.nil)))) (.cons (.call 15 (.cons (.loc 0) (.cons (.loc 1) (.nil)))) (.nil)))) (.nil))) (.bc .repr (.cons (.lst (.cons (.loc 2) (.cons (.loc 3) (.nil)))) (.nil)))))))
def f_law_thick_most_right : Fn := { ps := 2, n := 4, body := b_law_thick_most_right }
def b_law_thick_refused : S := .seq (.fr (.nm 3) .e (.cons (.call 22 (.nil)) (.nil)) (.seq (.asg (.nm 4) (.box (.lst (.cons (.call 21 (.cons (.lam 11 [3]) (.nil))) (.nil))))) (.seq (.ex (.mt .append (.loc 4) (.cons (.call 21 (.cons (.lam 10 [3]) (.nil))) (.nil)))) (.seq (.ex (.mt .append (.loc 4) (.cons (.call 21 (.cons (.lam 9 [3]) (.nil))) (.nil)))) (.seq (.ex (.mt .append (.loc 4) (.cons (.call 21 (.cons (.lam 8 [3]) (.nil))) (.nil)))) (.seq (.ex (.mt .append (.loc 4) (.cons (.call 21 (.cons (.lam 7 [3]) (.nil))) (.nil)))) (.ife (.cmp .ne (.lc [5] (.nm 5) .e (.cons (.loc 4) (.nil)) (.cons (.cmp .ne (.loc 5) (.tup (.cons (.cst (.str "k")) (.cons (.cst (.int 0)) (.nil))))) (.nil)) (.loc 5)) (.lst (.nil))) (.ret (.cst (.bl false))) (.skip)))))))) (.seq (.fr (.tup (.nm 6) (.tup (.nm 7) (.nil))) .e (.cons (.call 23 (.cons (.loc 2) (.nil))) (.nil)) (.seq (.asg (.nm 4) (.box (.lst (.cons (.call 21 (.cons (.lam 6 [6]) (.nil))) (.nil))))) (.seq (.ex (.mt .append (.loc 4) (.cons (.call 21 (.cons (.lam 5 [0, 6]) (.nil))) (.nil)))) (.seq (.ex (.mt .append (.loc 4) (.cons (.call 21 (.cons (.lam 4 [0, 6]) (.nil))) (.nil)))) (.ife (.cmp .ne (.lc [5] (.nm 5) .e (.cons (.loc 4) (.nil)) (.cons (.cmp .ne (.bc .repr (.cons (.loc 5) (.nil))) (.bc .repr (.cons (.tup (.cons (.cst (.str "ts")) (.cons (.loc 7) (.nil)))) (.nil)))) (.nil)) (.loc 5)) (.lst (.nil))) (.ret (.cst (.bl false))) (.skip)))))) (.seq (.fr (.tup (.nm 6) (.tup (.nm 7) (.nil))) .e (.cons (.lst (.cons (.tup (.cons (.cst (.non)) (.cons (.neg (.cst (.int 1))) (.nil)))) (.cons (.tup (.cons (.bin .mul (.tup (.cons (.cst (.int 1)) (.nil))) (.cst (.int 25))) (.cons (.neg (.cst (.int 1))) (.nil)))) (.cons (.tup (.cons (.bin .add (.sl (.loc 1) (.no) (.cst (.int 23))) (.tup (.cons (.cst (.int 0)) (.nil)))) (.cons (.bc .min2 (.cons (.cst (.int 23)) (.cons (.bc .len (.cons (.loc 1) (.nil))) (.nil)))) (.nil)))) (.cons (.tup (.cons (.tup (.cons (.cst (.int 100)) (.cons (.cst (.int 0)) (.nil)))) (.cons (.cst (.int 0)) (.nil)))) (.cons (.tup (.cons (.tup (.cons (.cst (.int 1)) (.cons (.cst (.bl true)) (.nil)))) (.cons (.cst (.int 1)) (.nil)))) (.nil))))))) (.nil)) (.ife (.cmp .ne (.bc .repr (.cons (.call 21 (.cons (.lam 3 [0, 6]) (.nil))) (.nil))) (.bc .repr (.cons (.tup (.cons (.cst (.str "row")) (.cons (.loc 7) (.nil)))) (.nil)))) (.ret (.cst (.bl false))) (.skip))) (.seq (.fr (.nm 3) .e (.cons (.lst (.cons (.cst (.int 0)) (.cons (.cst (.int 31)) (.cons (.neg (.cst (.int 1))) (.cons (.cst (.bl true)) (.cons (.cst (.non)) (.cons (.cst (.str "1")) (.cons (.bin .pow (.cst (.int 10)) (.cst (.int 20))) (.nil))))))))) (.nil)) (.seq (.ife (.cmp .ne (.call 21 (.cons (.lam 2 [0, 3]) (.nil))) (.tup (.cons (.cst (.str "many")) (.cons (.cst (.int 0)) (.nil))))) (.ret (.cst (.bl false))) (.skip)) (.ife (.cmp .ne (.call 21 (.cons (.lam 1 [0, 3]) (.nil))) (.tup (.cons (.cst (.str "many")) (.cons (.cst (.int 0)) (.nil))))) (.ret (.cst (.bl false))) (.skip)))) (.ret (.cst (.bl true))))))
def f_law_thick_refused : Fn := { ps := 3, n := 8, body := b_law_thick_refused }
def b_law : S := .seq (.ife (.or (.cmp .ne (.call 9 (.cons (.cst (.int 4)) (.cons (.tup (.cons (.cst (.int 1)) (.cons (.cst (.int 2)) (.cons (.cst (.int 2)) (.nil))))) (.nil)))) (.cst (.int 0))) (.or (.cmp .ne (.call 9 (.cons (.cst (.int 6)) (.cons (.tup (.cons (.cst (.int 6)) (.cons (.cst (.int 2)) (.nil)))) (.nil)))) (.cst (.int 2))) (.or (.cmp .ne (.call 9 (.cons (.cst (.int 60)) (.cons (.tup (.cons (.cst (.int 1)) (.nil))) (.nil)))) (.neg (.cst (.int 58)))) (.cmp .ne (.call 9 (.cons (.cst (.int 1)) (.cons (.bin .mul (.tup (.cons (.cst (.int 99)) (.nil))) (.cst (.int 24))) (.nil)))) (.cst (.int 197)))))) (.ret (.cst (.bl false))) (.skip)) (.seq (.asg (.nm 1) (.box (.call 16 (.cons (.loc 0) (.nil))))) (.seq (.asg (.nm 2) (.bin .add (.cst (.int 1)) (.call 17 (.cons (.loc 1) (.cons (.ite (.cmp .eq (.call 17 (.cons (.loc 1) (.cons (.cst (.int 6)) (.nil)))) (.cst (.int 0))) (.cst (.int 60)) (.cst (.int 12))) (.nil)))))) (.seq (.asg (.nm 3) (.call 20 (.cons (.loc 1) (.cons (.cst (.int 5)) (.cons (.bin .add (.loc 2) (.cst (.int 2))) (.nil)))))) (.seq (.asg (.nm 4) (.ite (.cmp .eq (.call 17 (.cons (.loc 1) (.cons (.cst (.int 6)) (.nil)))) (.cst (.int 0))) (.cst (.int 8)) (.bin .add (.cst (.int 1)) (.call 17 (.cons (.loc 1) (.cons (.cst (.int 5)) (.nil))))))) (.seq (.asg (.nm 5) (.bc .tuple (.cons (.lc [6] (.nm 6) .rng1 (.cons (.loc 4) (.nil)) (.nil) (.bin .add (.cst (.int 1)) (.call 17 (.cons (.loc 1) (.cons (.ite (.cmp .eq (.call 17 (.cons (.loc 1) (.cons (.cst (.int 5)) (.nil)))) (.cst (.int 0))) (.cst (.int 60)) (.bc .max2 (.cons (.cst (.int 1)) (.cons (.bin .fdiv (.loc 2) (.cst (.int 3))) (.nil))))) (.nil)))))) (.nil)))) (.seq (.ife (.or (.not (.call 25 (.cons (.loc 2) (.cons (.loc 3) (.nil))))) (.or (.not (.call 25 (.cons (.loc 2) (.cons (.sl (.loc 3) (.no) (.cst (.int 1))) (.nil))))) (.not (.call 26 (.cons (.loc 2) (.cons (.loc 5) (.nil))))))) (.ret (.cst (.bl false))) (.skip)) (.seq (.fr (.nm 7) .e (.cons (.lst (.cons (.cst (.int 1)) (.cons (.cst (.int 2)) (.cons (.cst (.int 30)) (.cons (.bin .add (.cst (.int 1)) (.call 17 (.cons (.loc 1) (.cons (.cst (.int 30)) (.nil))))) (.nil)))))) (.nil)) (.ife (.not (.call 27 (.cons (.loc 2) (.cons (.loc 7) (.nil))))) (.ret (.cst (.bl false))) (.skip))) (.ret (.call 28 (.cons (.loc 2) (.cons (.loc 3) (.cons (.loc 5) (.nil)))))))))))))
def f_law : Fn := { ps := 1, n := 8, body := b_law }
def l_0 : Lam := { ps := 0, n := 2, body := .call 9 (.cons (.loc 0) (.cons (.loc 1) (.nil))) }
def l_1 : Lam := { ps := 0, n := 2, body := .call 15 (.cons (.loc 0) (.cons (.loc 1) (.nil))) }
def l_2 : Lam := { ps := 0, n := 2, body := .call 14 (.cons (.loc 0) (.cons (.loc 1) (.nil))) }
def l_3 : Lam := { ps := 0, n := 2, body := .call 9 (.cons (.loc 0) (.cons (.loc 1) (.nil))) }
def l_4 : Lam := { ps := 0, n := 2, body := .call 13 (.cons (.loc 0) (.cons (.loc 1) (.nil))) }
def l_5 : Lam := { ps := 0, n := 2, body := .call 12 (.cons (.loc 0) (.cons (.loc 1) (.nil))) }
def l_6 : Lam := { ps := 0, n := 1, body := .call 10 (.cons (.loc 0) (.nil)) }
def l_7 : Lam := { ps := 0, n := 1, body := .call 15 (.cons (.loc 0) (.cons (.cst (.non)) (.nil))) }
def l_8 : Lam := { ps := 0, n := 1, body := .call 14 (.cons (.loc 0) (.cons (.cst (.int 0)) (.nil))) }
def l_9 : Lam := { ps := 0, n := 1, body := .call 13 (.cons (.loc 0) (.cons (.tup (.nil)) (.nil))) }
def l_10 : Lam := { ps := 0, n := 1, body := .call 12 (.cons (.loc 0) (.cons (.cst (.non)) (.nil))) }
def l_11 : Lam := { ps := 0, n := 1, body := .call 9 (.cons (.loc 0) (.cons (.cst (.non)) (.nil))) }
def fnsP : List Fn := [f_is_number, f_is_between, f_is_tuple_of, f_check_many, f_lowest, f_made_k, f_wrong_row, f_made_row, f_thickness_of, f_thickness, f_made_ts, f_spare_of, f_spare, f_fits, f_most, f_least_density, f_law_pool, f_law_draw, f_law_row_gcd, f_law_row_low, f_law_row_drawn, f_law_kind_heard, f_law_kind_no_k, f_law_kind_no_ts, f_law_thick_counted, f_law_thick_row_right, f_law_thick_ts_right, f_law_thick_most_right, f_law_thick_refused, f_law]
def lamsP : List Lam := [l_0, l_1, l_2, l_3, l_4, l_5, l_6, l_7, l_8, l_9, l_10, l_11]
def P : Prog := ⟨fnsP, lamsP⟩
abbrev lawIx : Nat := 29
theorem e_is_number {n : Nat} {as : List Sl} {s : St} : callF P (n + 1) (.fn 0) as s = if as.length = 1 then retF false s (exS (callF P n) b_is_number (as ++ []) ⟨s.objs, none⟩) else .bad := callF_fn (fn := f_is_number) rfl
theorem e_is_between {n : Nat} {as : List Sl} {s : St} : callF P (n + 1) (.fn 1) as s = if as.length = 3 then retF false s (exS (callF P n) b_is_between (as ++ []) ⟨s.objs, none⟩) else .bad := callF_fn (fn := f_is_between) rfl
theorem e_is_tuple_of {n : Nat} {as : List Sl} {s : St} : callF P (n + 1) (.fn 2) as s = if as.length = 3 then retF false s (exS (callF P n) b_is_tuple_of (as ++ []) ⟨s.objs, none⟩) else .bad := callF_fn (fn := f_is_tuple_of) rfl
theorem e_check_many {n : Nat} {as : List Sl} {s : St} : callF P (n + 1) (.fn 3) as s = if as.length = 3 then retF false s (exS (callF P n) b_check_many (as ++ []) ⟨s.objs, none⟩) else .bad := callF_fn (fn := f_check_many) rfl
theorem e_lowest {n : Nat} {as : List Sl} {s : St} : callF P (n + 1) (.fn 4) as s = if as.length = 2 then retF false s (exS (callF P n) b_lowest (as ++ [.no]) ⟨s.objs, none⟩) else .bad := callF_fn (fn := f_lowest) rfl
theorem e_made_k {n : Nat} {as : List Sl} {s : St} : callF P (n + 1) (.fn 5) as s = if as.length = 1 then retF false s (exS (callF P n) b_made_k (as ++ []) ⟨s.objs, none⟩) else .bad := callF_fn (fn := f_made_k) rfl
theorem e_wrong_row {n : Nat} {as : List Sl} {s : St} : callF P (n + 1) (.fn 6) as s = if as.length = 1 then retF false s (exS (callF P n) b_wrong_row (as ++ [.no]) ⟨s.objs, none⟩) else .bad := callF_fn (fn := f_wrong_row) rfl
theorem e_made_row {n : Nat} {as : List Sl} {s : St} : callF P (n + 1) (.fn 7) as s = if as.length = 1 then retF false s (exS (callF P n) b_made_row (as ++ [.no]) ⟨s.objs, none⟩) else .bad := callF_fn (fn := f_made_row) rfl
theorem e_thickness_of {n : Nat} {as : List Sl} {s : St} : callF P (n + 1) (.fn 8) as s = if as.length = 2 then retF false s (exS (callF P n) b_thickness_of (as ++ [.no]) ⟨s.objs, none⟩) else .bad := callF_fn (fn := f_thickness_of) rfl
theorem e_thickness {n : Nat} {as : List Sl} {s : St} : callF P (n + 1) (.fn 9) as s = if as.length = 2 then retF false s (exS (callF P n) b_thickness (as ++ []) ⟨s.objs, none⟩) else .bad := callF_fn (fn := f_thickness) rfl
theorem e_made_ts {n : Nat} {as : List Sl} {s : St} : callF P (n + 1) (.fn 10) as s = if as.length = 1 then retF false s (exS (callF P n) b_made_ts (as ++ [.no, .no]) ⟨s.objs, none⟩) else .bad := callF_fn (fn := f_made_ts) rfl
theorem e_spare_of {n : Nat} {as : List Sl} {s : St} : callF P (n + 1) (.fn 11) as s = if as.length = 2 then retF false s (exS (callF P n) b_spare_of (as ++ []) ⟨s.objs, none⟩) else .bad := callF_fn (fn := f_spare_of) rfl
theorem e_spare {n : Nat} {as : List Sl} {s : St} : callF P (n + 1) (.fn 12) as s = if as.length = 2 then retF false s (exS (callF P n) b_spare (as ++ []) ⟨s.objs, none⟩) else .bad := callF_fn (fn := f_spare) rfl
theorem e_fits {n : Nat} {as : List Sl} {s : St} : callF P (n + 1) (.fn 13) as s = if as.length = 2 then retF false s (exS (callF P n) b_fits (as ++ []) ⟨s.objs, none⟩) else .bad := callF_fn (fn := f_fits) rfl
theorem e_most {n : Nat} {as : List Sl} {s : St} : callF P (n + 1) (.fn 14) as s = if as.length = 2 then retF false s (exS (callF P n) b_most (as ++ []) ⟨s.objs, none⟩) else .bad := callF_fn (fn := f_most) rfl
theorem e_least_density {n : Nat} {as : List Sl} {s : St} : callF P (n + 1) (.fn 15) as s = if as.length = 2 then retF false s (exS (callF P n) b_least_density (as ++ [.no]) ⟨s.objs, none⟩) else .bad := callF_fn (fn := f_least_density) rfl
theorem e_law_pool {n : Nat} {as : List Sl} {s : St} : callF P (n + 1) (.fn 16) as s = if as.length = 1 then retF true s (exS (callF P n) b_law_pool (as ++ [.no, .no]) ⟨s.objs, none⟩) else .bad := callF_fn (fn := f_law_pool) rfl
theorem e_law_draw {n : Nat} {as : List Sl} {s : St} : callF P (n + 1) (.fn 17) as s = if as.length = 2 then retF false s (exS (callF P n) b_law_draw (as ++ [.no, .no, .no]) ⟨s.objs, none⟩) else .bad := callF_fn (fn := f_law_draw) rfl
theorem e_law_row_gcd {n : Nat} {as : List Sl} {s : St} : callF P (n + 1) (.fn 18) as s = if as.length = 2 then retF false s (exS (callF P n) b_law_row_gcd (as ++ []) ⟨s.objs, none⟩) else .bad := callF_fn (fn := f_law_row_gcd) rfl
theorem e_law_row_low {n : Nat} {as : List Sl} {s : St} : callF P (n + 1) (.fn 19) as s = if as.length = 2 then retF false s (exS (callF P n) b_law_row_low (as ++ [.no]) ⟨s.objs, none⟩) else .bad := callF_fn (fn := f_law_row_low) rfl
theorem e_law_row_drawn {n : Nat} {as : List Sl} {s : St} : callF P (n + 1) (.fn 20) as s = if as.length = 3 then retF false s (exS (callF P n) b_law_row_drawn (as ++ [.no, .no, .no, .no]) ⟨s.objs, none⟩) else .bad := callF_fn (fn := f_law_row_drawn) rfl
theorem e_law_kind_heard {n : Nat} {as : List Sl} {s : St} : callF P (n + 1) (.fn 21) as s = if as.length = 1 then retF false s (exS (callF P n) b_law_kind_heard (as ++ [.no]) ⟨s.objs, none⟩) else .bad := callF_fn (fn := f_law_kind_heard) rfl
theorem e_law_kind_no_k {n : Nat} {as : List Sl} {s : St} : callF P (n + 1) (.fn 22) as s = if as.length = 0 then retF false s (exS (callF P n) b_law_kind_no_k (as ++ []) ⟨s.objs, none⟩) else .bad := callF_fn (fn := f_law_kind_no_k) rfl
theorem e_law_kind_no_ts {n : Nat} {as : List Sl} {s : St} : callF P (n + 1) (.fn 23) as s = if as.length = 1 then retF false s (exS (callF P n) b_law_kind_no_ts (as ++ [.no, .no, .no]) ⟨s.objs, none⟩) else .bad := callF_fn (fn := f_law_kind_no_ts) rfl
theorem e_law_thick_counted {n : Nat} {as : List Sl} {s : St} : callF P (n + 1) (.fn 24) as s = if as.length = 2 then retF false s (exS (callF P n) b_law_thick_counted (as ++ [.no, .no]) ⟨s.objs, none⟩) else .bad := callF_fn (fn := f_law_thick_counted) rfl
theorem e_law_thick_row_right {n : Nat} {as : List Sl} {s : St} : callF P (n + 1) (.fn 25) as s = if as.length = 2 then retF false s (exS (callF P n) b_law_thick_row_right (as ++ [.no]) ⟨s.objs, none⟩) else .bad := callF_fn (fn := f_law_thick_row_right) rfl
theorem e_law_thick_ts_right {n : Nat} {as : List Sl} {s : St} : callF P (n + 1) (.fn 26) as s = if as.length = 2 then retF false s (exS (callF P n) b_law_thick_ts_right (as ++ [.no, .no]) ⟨s.objs, none⟩) else .bad := callF_fn (fn := f_law_thick_ts_right) rfl
theorem e_law_thick_most_right {n : Nat} {as : List Sl} {s : St} : callF P (n + 1) (.fn 27) as s = if as.length = 2 then retF false s (exS (callF P n) b_law_thick_most_right (as ++ [.no, .no]) ⟨s.objs, none⟩) else .bad := callF_fn (fn := f_law_thick_most_right) rfl
theorem e_law_thick_refused {n : Nat} {as : List Sl} {s : St} : callF P (n + 1) (.fn 28) as s = if as.length = 3 then retF false s (exS (callF P n) b_law_thick_refused (as ++ [.no, .no, .no, .no, .no]) ⟨s.objs, none⟩) else .bad := callF_fn (fn := f_law_thick_refused) rfl
theorem e_law {n : Nat} {as : List Sl} {s : St} : callF P (n + 1) (.fn 29) as s = if as.length = 1 then retF false s (exS (callF P n) b_law (as ++ [.no, .no, .no, .no, .no, .no, .no]) ⟨s.objs, none⟩) else .bad := callF_fn (fn := f_law) rfl
theorem el_0 {n : Nat} {ws as : List Sl} {s : St} : callF P (n + 1) (.lam 0 ws) as s = if as.length = 0 then retL s (ev (callF P n) (.call 9 (.cons (.loc 0) (.cons (.loc 1) (.nil)))) (as ++ (ws ++ List.replicate (2 - as.length - ws.length) .no)) ⟨s.objs, none⟩) else .bad := callF_lam (lm := l_0) rfl
theorem el_1 {n : Nat} {ws as : List Sl} {s : St} : callF P (n + 1) (.lam 1 ws) as s = if as.length = 0 then retL s (ev (callF P n) (.call 15 (.cons (.loc 0) (.cons (.loc 1) (.nil)))) (as ++ (ws ++ List.replicate (2 - as.length - ws.length) .no)) ⟨s.objs, none⟩) else .bad := callF_lam (lm := l_1) rfl
theorem el_2 {n : Nat} {ws as : List Sl} {s : St} : callF P (n + 1) (.lam 2 ws) as s = if as.length = 0 then retL s (ev (callF P n) (.call 14 (.cons (.loc 0) (.cons (.loc 1) (.nil)))) (as ++ (ws ++ List.replicate (2 - as.length - ws.length) .no)) ⟨s.objs, none⟩) else .bad := callF_lam (lm := l_2) rfl
theorem el_3 {n : Nat} {ws as : List Sl} {s : St} : callF P (n + 1) (.lam 3 ws) as s = if as.length = 0 then retL s (ev (callF P n) (.call 9 (.cons (.loc 0) (.cons (.loc 1) (.nil)))) (as ++ (ws ++ List.replicate (2 - as.length - ws.length) .no)) ⟨s.objs, none⟩) else .bad := callF_lam (lm := l_3) rfl
theorem el_4 {n : Nat} {ws as : List Sl} {s : St} : callF P (n + 1) (.lam 4 ws) as s = if as.length = 0 then retL s (ev (callF P n) (.call 13 (.cons (.loc 0) (.cons (.loc 1) (.nil)))) (as ++ (ws ++ List.replicate (2 - as.length - ws.length) .no)) ⟨s.objs, none⟩) else .bad := callF_lam (lm := l_4) rfl
theorem el_5 {n : Nat} {ws as : List Sl} {s : St} : callF P (n + 1) (.lam 5 ws) as s = if as.length = 0 then retL s (ev (callF P n) (.call 12 (.cons (.loc 0) (.cons (.loc 1) (.nil)))) (as ++ (ws ++ List.replicate (2 - as.length - ws.length) .no)) ⟨s.objs, none⟩) else .bad := callF_lam (lm := l_5) rfl
theorem el_6 {n : Nat} {ws as : List Sl} {s : St} : callF P (n + 1) (.lam 6 ws) as s = if as.length = 0 then retL s (ev (callF P n) (.call 10 (.cons (.loc 0) (.nil))) (as ++ (ws ++ List.replicate (1 - as.length - ws.length) .no)) ⟨s.objs, none⟩) else .bad := callF_lam (lm := l_6) rfl
theorem el_7 {n : Nat} {ws as : List Sl} {s : St} : callF P (n + 1) (.lam 7 ws) as s = if as.length = 0 then retL s (ev (callF P n) (.call 15 (.cons (.loc 0) (.cons (.cst (.non)) (.nil)))) (as ++ (ws ++ List.replicate (1 - as.length - ws.length) .no)) ⟨s.objs, none⟩) else .bad := callF_lam (lm := l_7) rfl
theorem el_8 {n : Nat} {ws as : List Sl} {s : St} : callF P (n + 1) (.lam 8 ws) as s = if as.length = 0 then retL s (ev (callF P n) (.call 14 (.cons (.loc 0) (.cons (.cst (.int 0)) (.nil)))) (as ++ (ws ++ List.replicate (1 - as.length - ws.length) .no)) ⟨s.objs, none⟩) else .bad := callF_lam (lm := l_8) rfl
theorem el_9 {n : Nat} {ws as : List Sl} {s : St} : callF P (n + 1) (.lam 9 ws) as s = if as.length = 0 then retL s (ev (callF P n) (.call 13 (.cons (.loc 0) (.cons (.tup (.nil)) (.nil)))) (as ++ (ws ++ List.replicate (1 - as.length - ws.length) .no)) ⟨s.objs, none⟩) else .bad := callF_lam (lm := l_9) rfl
theorem el_10 {n : Nat} {ws as : List Sl} {s : St} : callF P (n + 1) (.lam 10 ws) as s = if as.length = 0 then retL s (ev (callF P n) (.call 12 (.cons (.loc 0) (.cons (.cst (.non)) (.nil)))) (as ++ (ws ++ List.replicate (1 - as.length - ws.length) .no)) ⟨s.objs, none⟩) else .bad := callF_lam (lm := l_10) rfl
theorem el_11 {n : Nat} {ws as : List Sl} {s : St} : callF P (n + 1) (.lam 11 ws) as s = if as.length = 0 then retL s (ev (callF P n) (.call 9 (.cons (.loc 0) (.cons (.cst (.non)) (.nil)))) (as ++ (ws ++ List.replicate (1 - as.length - ws.length) .no)) ⟨s.objs, none⟩) else .bad := callF_lam (lm := l_11) rfl

end Ev
set_option Elab.async false
set_option linter.all false
set_option maxRecDepth 100000
namespace Ev
open PySem
def isNum : D → Bool
  | .int _ => true
  | _ => false
/-- a number from lo to hi -/
def btw (lo hi : Int) : D → Bool
  | .int i => decide (lo ≤ i) && decide (i ≤ hi)
  | _ => false
def tupOf (lo hi : Int) : D → Bool
  | .tup ds => decide (lo ≤ (ds.length : Int)) && decide ((ds.length : Int) ≤ hi)
  | _ => false
theorem btw_iff {lo hi : Int} {d : D} : btw lo hi d = true ↔ ∃ i, d = .int i ∧ lo ≤ i ∧ i ≤ hi := by
  cases d <;> simp [btw]
section
variable {n : Nat} {s : St} {d : D} {lo hi : Int}
theorem k_is_number : callF P (n + 1) (.fn 0) [.val d] s = .ok (.v (.bl (isNum d))) s := by
  rw [e_is_number]
  cases d <;> simp [b_is_number, leave_same, isNum]
theorem k_is_between : callF P (n + 2) (.fn 1) [.val d, .val (.int lo), .val (.int hi)] s = .ok (.v (.bl (btw lo hi d))) s := by
  rw [e_is_between]
  cases d <;> simp [b_is_between, leave_same, isNum, btw, k_is_number]
  split <;> simp [*]
theorem k_is_tuple_of : callF P (n + 1) (.fn 2) [.val d, .val (.int lo), .val (.int hi)] s = .ok (.v (.bl (tupOf lo hi d))) s := by
  rw [e_is_tuple_of]
  cases d <;> simp [b_is_tuple_of, leave_same, tupOf]
  split <;> simp [*]
theorem k_check_many : callF P (n + 3) (.fn 3) [.val d, .val (.int lo), .val (.int hi)] s = if btw lo hi d = true then .ok (.v .non) s else .rs 5 (.int 0) s := by
  rw [e_check_many]
  cases h : btw lo hi d <;> simp [b_check_many, leave_same, leaveR_same, k_is_between, h]
theorem k_made_k : callF P (n + 3) (.fn 5) [.val d] s = if btw 1 60 d = true then .ok (.v d) s else .rs 1 (.int 0) s := by
  rw [e_made_k]
  cases h : btw 1 60 d
  · simp [b_made_k, leave_same, leaveR_same, k_is_between, h]
  · obtain ⟨i, rfl, _⟩ := btw_iff.mp h
    simp [b_made_k, leave_same, leaveR_same, k_is_between, h]
/-- what is wrong with a tuple of numbers from lo to hi -/
def firstBad (lo hi : Int) (ds : List D) : Option Nat := ds.findIdx? fun d => !btw lo hi d
theorem firstBad_none {lo hi : Int} {ds : List D} (h : firstBad lo hi ds = none) : ∃ is : List Int, ds = is.map .int ∧ ∀ i ∈ is, lo ≤ i ∧ i ≤ hi := by
  unfold firstBad at h
  rw [List.findIdx?_eq_none_iff] at h
  induction ds with
  | nil => exact ⟨[], rfl, fun _ m => nomatch m⟩
  | cons d ds ih =>
    have h1 := h d (List.mem_cons_self ..)
    obtain ⟨i, rfl, h2⟩ := btw_iff.mp (by simpa using h1)
    obtain ⟨is, rfl, h3⟩ := ih fun x m => h x (List.mem_cons_of_mem _ m)
    exact ⟨i :: is, rfl, fun j m => (List.mem_cons.mp m).elim (fun e => e ▸ h2) (h3 j)⟩
/-- a loop that looks for the first wrong item -/
theorem first_at {lo hi : Int} {ds : List D} {i : Nat} {d : D} (hd : ds[i]? = some d) (hb : btw lo hi d = false) (hp : ∀ j < i, ∀ x, ds[j]? = some x → btw lo hi x = true) : firstBad lo hi ds = some i := by
  unfold firstBad
  rw [List.findIdx?_eq_some_iff_getElem]
  obtain ⟨l, e⟩ := List.getElem?_eq_some_iff.mp hd
  refine ⟨l, by rw [e, hb]; rfl, fun j lt => ?_⟩
  rw [hp j lt _ (List.getElem?_eq_getElem (by omega))]
  simp
theorem first_no {lo hi : Int} {ds : List D} (hp : ∀ j < ds.length, ∀ x, ds[j]? = some x → btw lo hi x = true) : firstBad lo hi ds = none := by
  unfold firstBad
  rw [List.findIdx?_eq_none_iff]
  intro x m
  obtain ⟨j, e⟩ := List.mem_iff_getElem?.mp m
  rw [hp j (List.getElem?_eq_some_iff.mp e).1 x e]
  rfl
def wrongRow : D → D
  | .tup ds => if ds.length ≤ 24 then (match firstBad 1 99 ds with
    | some i => .int i
    | none => .non) else .int (-1)
  | _ => .int (-1)
theorem k_wrong_row : callF P (n + 3) (.fn 6) [.val d] s = .ok (.v (wrongRow d)) s := by
  rw [e_wrong_row]
  cases h : tupOf 0 24 d
  · cases d <;> simp_all [b_wrong_row, leave_same, k_is_tuple_of, wrongRow, tupOf]
    rename_i ds
    have : ¬ ds.length ≤ 24 := by omega
    simp [this]
  · cases d <;> simp only [tupOf, Bool.false_eq_true] at h
    rename_i ds
    simp only [Bool.and_eq_true, decide_eq_true_eq] at h
    have hl : ds.length ≤ 24 := by omega
    have e1 : tupOf 0 24 (.tup ds) = true := by simp [tupOf]; omega
    simp [b_wrong_row, k_is_tuple_of, e1, wrongRow, hl, items_rng1 (b := (ds.length : Int)) (by omega)]
    refine frL_wp (Q := fun o => retF false s (seqO o fun env s => O.rt (X.v D.non) s) = R.ok (X.v (match firstBad 1 99 ds with | some i => D.int i | none => D.non)) s) (fun i env t => t = ⟨s.objs, none⟩ ∧ (∃ w, env = [.val (.tup ds), w]) ∧ ∀ j < i, ∀ x, ds[j]? = some x → btw 1 99 x = true) _ 0 _ _ ⟨rfl, ⟨_, rfl⟩, fun j lt => absurd lt (Nat.not_lt_zero j)⟩ ?_ ?_ ?_
    · rintro i env t ⟨rfl, _⟩; rfl
    · rintro i x env t hx ⟨rfl, ⟨w, rfl⟩, hp⟩
      obtain ⟨li, rfl⟩ := rng_at hx
      have li : i < ds.length := by omega
      have hd : ds[i]? = some ds[i] := List.getElem?_eq_getElem li
      have ix : idx s.objs (.tup ds) (.int (i : Int)) = some ds[i] := idx_nat rfl hd
      cases hb : btw 1 99 ds[i]
      · have fb := first_at hd hb (by simpa using hp)
        simp [ix, k_is_between, hb, fb, leave_same]
      · simp [ix, k_is_between, hb]
        intro j lt x ex
        by_cases q : j = i
        · subst q
          rw [hd] at ex
          cases ex
          exact hb
        · exact hp j (by omega) x ex
    · rintro env t ⟨rfl, _, hp⟩
      have fb := first_no (lo := 1) (hi := 99) (ds := ds) (by simpa using hp)
      simp [fb, leave_same]
theorem k_made_row : callF P (n + 4) (.fn 7) [.val d] s = (match wrongRow d with
    | .non => .ok (.v d) s
    | w => .rs 2 w s) := by
  rw [e_made_row]
  cases d with
  | tup ds =>
    by_cases hl : ds.length ≤ 24
    · cases fb : firstBad 1 99 ds with
      | none =>
        obtain ⟨is, rfl, _⟩ := firstBad_none fb
        have hw : wrongRow (.tup (is.map .int)) = .non := by simp only [wrongRow, if_pos hl, fb]
        simp [b_made_row, k_wrong_row, hw, leave_same]
      | some i =>
        have hw : wrongRow (.tup ds) = .int i := by simp only [wrongRow, if_pos hl, fb]
        simp [b_made_row, k_wrong_row, hw, leaveR_same]
    · have hw : wrongRow (.tup ds) = .int (-1) := by simp only [wrongRow, if_neg hl]
      simp [b_made_row, k_wrong_row, hw, leaveR_same]
  | _ => simp [b_made_row, k_wrong_row, wrongRow, leaveR_same]
end
/-! ### thick.py -/
@[simp] theorem bi_sumT {objs : List Ob} {is : List Int} : bi objs .sum [.tup (is.map .int)] = some (.v (.int is.sum)) := by
  show (intL (is.map D.int)).map (fun is => X.v (.int is.sum)) = _
  rw [intL_ints]; rfl
def mx : List Int → Int
  | [] => 0
  | i :: is => maxL i is
theorem bi_maxT {objs : List Ob} {is : List Int} (h : is ≠ []) : bi objs .max1 [.tup (is.map .int)] = some (.v (.int (mx is))) := by
  cases is with
  | nil => exact absurd rfl h
  | cons i is =>
    show (match intL ((i :: is).map D.int) with
      | some (i :: is) => some (X.v (.int (maxL i is)))
      | _ => none) = _
    rw [intL_ints]
    rfl
theorem b_addT {objs : List Ob} {xs ys : List D} (h : xs.length + ys.length ≤ sizeLine) : binop objs .add (.tup xs) (.tup ys) = some (.v (.tup (xs ++ ys))) := by
  show (if _ then _ else _) = _
  rw [if_pos h]
theorem eq_unit {objs : List Ob} {is : List Int} (h : ∀ i ∈ is, 1 ≤ i ∧ i ≤ 99) : cmp objs .eq (.tup (is.map .int)) (.tup []) = some is.isEmpty := by
  have hb : okIL (is.map D.int) = true := okIL_ints fun i m => by have := h i m; omega
  rw [c_eqD (by simp [fuelP, pdOk]) (by simp only [okI]; exact hb) (by simp [fuelP, pdOk, pdOkL]) (by simp [okI, okIL])]
  cases is <;> simp [pd, pdL, PyData.eqv, PyData.eqvAll]
/-- twice the mean gap, rounded up, less k -/
def thick (k : Int) (is : List Int) : Int := (2 * is.sum + is.length - 1) / is.length - k
def rowOk (is : List Int) : Prop := is.length ≤ 24 ∧ ∀ i ∈ is, 1 ≤ i ∧ i ≤ 99
def tsOk (is : List Int) : Prop := 1 ≤ is.length ∧ is.length ≤ 8 ∧ ∀ i ∈ is, 1 ≤ i ∧ i ≤ 60
theorem first_ok {lo hi : Int} {is : List Int} (h : ∀ i ∈ is, lo ≤ i ∧ i ≤ hi) : firstBad lo hi (is.map .int) = none := by
  unfold firstBad
  rw [List.findIdx?_eq_none_iff]
  intro x m
  obtain ⟨i, hi, rfl⟩ := List.mem_map.mp m
  simp [btw, h i hi]
theorem rowOk.wrong {is : List Int} (h : rowOk is) : wrongRow (.tup (is.map .int)) = .non := by
  simp only [wrongRow, List.length_map, if_pos h.1, first_ok h.2]
section
variable {n : Nat} {s : St} {k : Int} {is : List Int} {d dk dr : D}
theorem k_thickness_of (h1 : is ≠ []) (h2 : is.length ≤ 24) : callF P (n + 1) (.fn 8) [.val (.int k), .val (.tup (is.map .int))] s = .ok (.v (.int (thick k is))) s := by
  have hp : 0 < is.length := List.length_pos_iff.mpr h1
  rw [e_thickness_of]
  simp [b_thickness_of, leave_same, b_mulL (m := 2) (by decide), b_div (n := (is.length : Int)) (by omega), thick]
theorem k_thick_k (h : btw 1 60 dk = false) : callF P (n + 5) (.fn 9) [.val dk, .val dr] s = .rs 1 (.int 0) s := by
  rw [e_thickness]
  simp [b_thickness, k_made_k, h, leaveR_same]
theorem k_thick_row (h : btw 1 60 dk = true) {i : Int} (h2 : wrongRow dr = .int i) : callF P (n + 5) (.fn 9) [.val dk, .val dr] s = .rs 2 (.int i) s := by
  rw [e_thickness]
  simp [b_thickness, k_made_k, h, k_made_row, h2, leaveR_same]
theorem k_thick_dark (h : btw 1 60 dk = true) : callF P (n + 5) (.fn 9) [.val dk, .val (.tup [])] s = .rs 4 (.int 0) s := by
  have e := eq_unit (objs := s.objs) (is := []) (fun _ m => nomatch m)
  simp only [List.map_nil] at e
  have w : wrongRow (.tup []) = .non := rfl
  rw [e_thickness]
  simp [b_thickness, k_made_k, h, k_made_row, w, e, leaveR_same]
theorem k_thick_ok (h : 1 ≤ k ∧ k ≤ 60) (h1 : is ≠ []) (h2 : rowOk is) : callF P (n + 5) (.fn 9) [.val (.int k), .val (.tup (is.map .int))] s = .ok (.v (.int (thick k is))) s := by
  have hk : btw 1 60 (.int k) = true := by simp [btw]; omega
  have e := eq_unit (objs := s.objs) h2.2
  have z : is.isEmpty = false := by simpa using h1
  rw [e_thickness]
  simp [b_thickness, k_made_k, hk, k_made_row, h2.wrong, e, z, k_thickness_of h1 h2.1, leave_same]
def wrongTs : D → Option Int
  | .tup ds => if 1 ≤ ds.length ∧ ds.length ≤ 8 then (firstBad 1 60 ds).map fun i => (i : Int) else some (-1)
  | _ => some (-1)
theorem k_ts_bad {w : Int} (h : wrongTs d = some w) : callF P (n + 3) (.fn 10) [.val d] s = .rs 7 (.int w) s := by
  rw [e_made_ts]
  cases ht : tupOf 1 8 d
  · have e : w = -1 := by
      cases d <;> simp only [wrongTs, Option.some.injEq] at h <;> first | exact h.symm | skip
      rename_i ds
      simp only [tupOf, Bool.and_eq_false_iff, decide_eq_false_iff_not] at ht
      rw [if_neg (by omega)] at h
      cases h; rfl
    subst e
    simp [b_made_ts, k_is_tuple_of, ht, leaveR_same]
  · cases d <;> simp only [tupOf, Bool.false_eq_true] at ht
    rename_i ds
    have ht' := ht
    simp only [Bool.and_eq_true, decide_eq_true_eq] at ht
    have ht2 : tupOf 1 8 (.tup ds) = true := ht'
    simp only [wrongTs] at h
    rw [if_pos (by omega)] at h
    simp [b_made_ts, k_is_tuple_of, ht2]
    refine frL_wp (Q := fun o => retF false s (seqO o fun env s => exS (callF P (n + 2)) (S.ret (.loc 0)) env s) = R.rs 7 (.int w) s) (fun i env t => t = ⟨s.objs, none⟩ ∧ (∃ w w2, env = [.val (.tup ds), w, w2]) ∧ ∀ j < i, ∀ x, ds[j]? = some x → btw 1 60 x = true) _ 0 _ _ ⟨rfl, ⟨_, _, rfl⟩, fun j lt => absurd lt (Nat.not_lt_zero j)⟩ ?_ ?_ ?_
    · rintro i env t ⟨rfl, _⟩; rfl
    · rintro i x env t hx ⟨rfl, ⟨w1, w2, rfl⟩, hp⟩
      obtain ⟨y, hd, rfl⟩ := enm_at hx
      cases hb : btw 1 60 y
      · have fb := first_at hd hb (by simpa using hp)
        rw [fb] at h
        have h' : some ((i : Nat) : Int) = some w := h
        cases h'
        simp [k_is_between, hb, leaveR_same]
      · simp [k_is_between, hb]
        intro j lt x ex
        by_cases q : j = i
        · subst q
          rw [hd] at ex
          cases ex
          exact hb
        · exact hp j (by omega) x ex
    · rintro env t ⟨rfl, ⟨w1, w2, rfl⟩, hp⟩
      have fb := first_no (lo := 1) (hi := 60) (ds := ds) (by simpa using hp)
      rw [fb] at h
      cases h
theorem k_ts_ok (h : tsOk is) : callF P (n + 3) (.fn 10) [.val (.tup (is.map .int))] s = .ok (.v (.tup (is.map .int))) s := by
  have ht2 : tupOf 1 8 (.tup (is.map .int)) = true := by simp [tupOf]; have := h.1; have := h.2.1; omega
  rw [e_made_ts]
  simp [b_made_ts, k_is_tuple_of, ht2]
  refine frL_wp (Q := fun o => retF false s (seqO o fun env s => exS (callF P (n + 2)) (S.ret (.loc 0)) env s) = R.ok (.v (.tup (is.map .int))) s) (fun i env t => t = ⟨s.objs, none⟩ ∧ (∃ w w2, env = [.val (.tup (is.map .int)), w, w2])) _ 0 _ _ ⟨rfl, ⟨_, _, rfl⟩⟩ ?_ ?_ ?_
  · rintro i env t ⟨rfl, _⟩; rfl
  · rintro i x env t hx ⟨rfl, ⟨w1, w2, rfl⟩⟩
    obtain ⟨y, hd, rfl⟩ := enm_at hx
    obtain ⟨j, hj, rfl⟩ := List.mem_map.mp (List.mem_of_getElem? hd)
    have hb : btw 1 60 (.int j) = true := by simp [btw, h.2.2 j hj]
    simp [k_is_between, hb]
  · rintro env t ⟨rfl, ⟨w1, w2, rfl⟩⟩
    simp [leave_same]
theorem k_spare_of (h : tsOk is) : callF P (n + 1) (.fn 11) [.val (.int k), .val (.tup (is.map .int))] s = .ok (.v (.int (k + mx (is ++ [0]) - 2 * is.sum))) s := by
  have e : is.map D.int ++ [D.int 0] = (is ++ [0]).map D.int := by simp
  have hl : (is.map D.int).length + [D.int 0].length ≤ sizeLine := by
    have := h.2.1
    simp only [List.length_map, List.length_cons, List.length_nil, sizeLine_eq]
    omega
  rw [e_spare_of]
  simp [b_spare_of, leave_same, b_addT hl, e, bi_maxT, b_mulL (m := 2) (by decide), -List.map_append]
theorem k_spare_k (h : btw 1 60 dk = false) : callF P (n + 4) (.fn 12) [.val dk, .val dr] s = .rs 1 (.int 0) s := by
  rw [e_spare]
  simp [b_spare, k_made_k, h, leaveR_same]
theorem k_spare_ts (h : btw 1 60 dk = true) {w : Int} (h2 : wrongTs dr = some w) : callF P (n + 4) (.fn 12) [.val dk, .val dr] s = .rs 7 (.int w) s := by
  rw [e_spare]
  simp [b_spare, k_made_k, h, k_ts_bad h2, leaveR_same]
theorem k_spare_ok (h : 1 ≤ k ∧ k ≤ 60) (h2 : tsOk is) : callF P (n + 4) (.fn 12) [.val (.int k), .val (.tup (is.map .int))] s = .ok (.v (.int (k + mx (is ++ [0]) - 2 * is.sum))) s := by
  have hk : btw 1 60 (.int k) = true := by simp [btw]; omega
  rw [e_spare]
  simp [b_spare, k_made_k, hk, k_ts_ok h2, k_spare_of h2, leave_same]
theorem k_fits_k (h : btw 1 60 dk = false) : callF P (n + 5) (.fn 13) [.val dk, .val dr] s = .rs 1 (.int 0) s := by
  rw [e_fits]
  simp [b_fits, k_spare_k h, leaveR_same]
theorem k_fits_ts (h : btw 1 60 dk = true) {w : Int} (h2 : wrongTs dr = some w) : callF P (n + 5) (.fn 13) [.val dk, .val dr] s = .rs 7 (.int w) s := by
  rw [e_fits]
  simp [b_fits, k_spare_ts h h2, leaveR_same]
theorem k_fits_ok (h : 1 ≤ k ∧ k ≤ 60) (h2 : tsOk is) : callF P (n + 5) (.fn 13) [.val (.int k), .val (.tup (is.map .int))] s = .ok (.v (.bl (decide (0 ≤ k + mx (is ++ [0]) - 2 * is.sum)))) s := by
  rw [e_fits]
  simp [b_fits, k_spare_ok h h2, leave_same]
theorem k_most_k (h : btw 1 60 dk = false) : callF P (n + 4) (.fn 14) [.val dk, .val dr] s = .rs 1 (.int 0) s := by
  rw [e_most]
  simp [b_most, k_made_k, h, leaveR_same]
theorem k_most_many (h : btw 1 60 dk = true) (h2 : btw 1 30 dr = false) : callF P (n + 4) (.fn 14) [.val dk, .val dr] s = .rs 5 (.int 0) s := by
  rw [e_most]
  simp [b_most, k_made_k, h, k_check_many, h2, leaveR_same]
theorem k_most_ok {m : Int} (h : 1 ≤ k ∧ k ≤ 60) (h2 : 1 ≤ m ∧ m ≤ 30) : callF P (n + 4) (.fn 14) [.val (.int k), .val (.int m)] s = .ok (.v (.int (k / (2 * m - 1)))) s := by
  have hk : btw 1 60 (.int k) = true := by simp [btw]; omega
  have hm : btw 1 30 (.int m) = true := by simp [btw]; omega
  rw [e_most]
  simp [b_most, k_made_k, hk, k_check_many, hm, leave_same, b_mulL (m := 2) (by decide), b_div (n := 2 * m - 1) (by omega)]
theorem k_ld_k (h : btw 1 60 dk = false) : callF P (n + 5) (.fn 15) [.val dk, .val dr] s = .rs 1 (.int 0) s := by
  rw [e_least_density]
  simp [b_least_density, k_most_k h, leaveR_same]
theorem k_ld_many (h : btw 1 60 dk = true) (h2 : btw 1 30 dr = false) : callF P (n + 5) (.fn 15) [.val dk, .val dr] s = .rs 5 (.int 0) s := by
  rw [e_least_density]
  simp [b_least_density, k_most_many h h2, leaveR_same]
/-- p / q in lowest terms -/
def low (p q : Int) : D := .tup [.int (p / (Nat.gcd p.natAbs q.natAbs : Int)), .int (q / (Nat.gcd p.natAbs q.natAbs : Int))]
theorem k_lowest {p q : Int} (h : 0 < p ∧ p < 1000) : callF P (n + 1) (.fn 4) [.val (.int p), .val (.int q)] s = .ok (.v (low p q)) s := by
  have g1 : 0 < Nat.gcd p.natAbs q.natAbs := Nat.gcd_pos_of_pos_left _ (by omega)
  have g2 : Nat.gcd p.natAbs q.natAbs ≤ p.natAbs := Nat.gcd_le_left _ (by omega)
  have e : bi s.objs .gcd [.int p, .int q] = some (.v (.int (Nat.gcd p.natAbs q.natAbs : Int))) := rfl
  rw [e_lowest]
  simp [b_lowest, leave_same, e, b_div (n := (Nat.gcd p.natAbs q.natAbs : Int)) (by omega), low]
theorem k_ld_ok {m : Int} (h : 1 ≤ k ∧ k ≤ 60) (h2 : 1 ≤ m ∧ m ≤ 30) : callF P (n + 5) (.fn 15) [.val (.int k), .val (.int m)] s = .ok (.v (if k / (2 * m - 1) = 0 then .non else low 2 (k + k / (2 * m - 1)))) s := by
  rw [e_least_density]
  by_cases z : k / (2 * m - 1) = 0
  · simp [b_least_density, k_most_ok h h2, z, leave_same]
  · have z' : (k / (2 * m - 1) == 0) = false := by simpa using z
    simp [b_least_density, k_most_ok h h2, z, k_lowest (p := 2) (by decide), leave_same, low]
end
end Ev

set_option Elab.async false
set_option linter.all false
set_option maxRecDepth 100000
namespace Ev
open PySem
theorem X.res_lo {o : List Ob} {n : Nat} {x : X} (h : X.lo n x = true) : X.res o n x = some x := by
  cases x with
  | n ds => simp only [X.lo] at h; simp [X.res, h]
  | v d =>
    simp only [X.lo] at h
    cases d with
    | ref k =>
      simp only [D.lo, decide_eq_true_eq] at h
      simp only [X.res]
      rw [if_pos h]
    | _ => simp only [X.res]; rw [if_pos h]
/-- what was there may have changed, what is new goes -/
theorem leave_cut {s : St} {o e : List Ob} {x : X} (h : X.lo s.objs.length x = true) (hl : o.length = s.objs.length) : leaveX false s x ⟨o ++ e, none⟩ = .ok x ⟨o, s.esc⟩ := by
  unfold leaveX
  rw [if_pos (by rfl), X.res_lo h]
  simp [← hl]
theorem leave_len {s : St} {o : List Ob} {x : X} (h : X.lo s.objs.length x = true) (hl : o.length = s.objs.length) : leaveX false s x ⟨o, none⟩ = .ok x ⟨o, s.esc⟩ := by
  have := leave_cut (e := []) h hl
  rwa [List.append_nil] at this
theorem seq_ref {objs : List Ob} {n : Nat} {ds : List D} (h : objs[n]? = some (.lst ds)) : seqOf objs (.ref n) = some ds := by
  simp only [seqOf, h]
theorem idx_ref {objs : List Ob} {n : Nat} {ds : List D} {k : Int} {d : D} (h : objs[n]? = some (.lst ds)) (h2 : L2.atI ds k = some d) : idx objs (.ref n) (.int k) = some d := by
  simp only [idx, seq_ref h]
  exact h2
theorem toP_ref {objs : List Ob} {n : Nat} {is : List Int} (h : objs[n]? = some (.lst (is.map .int))) : D.toP objs fuelP (.ref n) = some (.list (pdL (is.map .int))) := by
  show (match objs[n]? with
    | some (.lst ds) => (ds.mapM (D.toP objs 11)).map PyData.list
    | none => none) = _
  rw [h]
  simp only [toPL_ok (f := 11) (ds := is.map D.int) pdOkL_ints, Option.map_some]
theorem c_neRef {objs : List Ob} {n : Nat} {is : List Int} (h : objs[n]? = some (.lst (is.map .int))) : cmp objs .ne (.ref n) (.lst []) = some (!is.isEmpty) := by
  have e1 : D.toP objs fuelP (.lst []) = some (.list []) := rfl
  have e2 := toP_ref h
  have s1 : SeqAt.shaped (.list (pdL (is.map .int))) = true := by
    have c : ∀ is : List Int, PyData.canLayAll0 (pdL (is.map .int)) = true := by
      intro is
      induction is with
      | nil => simp [pdL, PyData.canLayAll0]
      | cons i is ih => simp [pdL, pd, PyData.canLayAll0, PyData.canLay0, ih]
    have dp := depth_ok (f := 2) (d := .lst (is.map .int)) (by simp [pdOk])
    simp only [pd] at dp
    simp only [SeqAt.shaped, PyData.canLay0, c, Bool.true_and, decide_eq_true_eq]
    omega
  have s2 : SeqAt.shaped (.list []) = true := rfl
  show (eqd objs (.ref n) (.lst [])).map (!·) = _
  have g : eqd objs (.ref n) (.lst []) = some (PyData.eqv (.list (pdL (is.map .int))) (.list [])) := by
    show eqdG objs (.ref n) (.lst []) = _
    simp only [eqdG, e1, e2, s1, s2, Bool.and_self, if_true]
  rw [g]
  cases is <;> simp [pdL, PyData.eqv, PyData.eqvAll]

theorem setO_def {s : St} {n : Nat} {o : Ob} {e : Option Nat} : setO s n o e = ⟨s.objs.set n o, e⟩ := rfl
/-! ### draws -/
/-- the pool of the numbers that are left, ahead of what else there is -/
def pO (rest : List Int) (a b : Int) (tl : List Ob) : List Ob := .lst (rest.map .int) :: .lst [.int a, .int b, .ref 0] :: tl
/-- what holds of the pool -/
def pOk (a b : Int) : Prop := 0 ≤ a ∧ 0 ≤ b ∧ b < 2 ^ 40
def szI (c : Int) : Int := if 0 ≤ c then 2 * c else -1 - 2 * c
def S.fst : S → S
  | .seq a _ => a
  | s => s
def S.snd : S → S
  | .seq _ b => b
  | s => s
section
variable {rest : List Int} {a b : Int} {tl : List Ob} {e : Option Nat}
theorem pO_0 : (pO rest a b tl)[0]? = some (.lst (rest.map .int)) := rfl
theorem pO_1 : (pO rest a b tl)[1]? = some (.lst [.int a, .int b, .ref 0]) := rfl
theorem pO_len : (pO rest a b tl).length = tl.length + 2 := rfl
theorem at0 {x y z : D} : L2.atI [x, y, z] 0 = some x := rfl
theorem at1 {x y z : D} : L2.atI [x, y, z] 1 = some y := rfl
theorem at2 {x y z : D} : L2.atI [x, y, z] 2 = some z := rfl
theorem ix0 {x y z : D} : ixN [x, y, z].length 0 = some 0 := rfl
theorem ix1 {x y z : D} : ixN [x, y, z].length 1 = some 1 := rfl
theorem p_0 : idx (pO rest a b tl) (.ref 1) (.int 0) = some (.int a) := idx_ref pO_1 at0
theorem p_1 : idx (pO rest a b tl) (.ref 1) (.int 1) = some (.int b) := idx_ref pO_1 at1
theorem p_2 : idx (pO rest a b tl) (.ref 1) (.int 2) = some (.ref 0) := idx_ref pO_1 at2
theorem set_0 {env : Env} {c : Int} : setIO env ⟨pO rest a b tl, e⟩ (.int c) (.ref 1) (.int 0) = .nx env ⟨pO rest c b tl, e⟩ := by
  rw [setIO_ref pO_1 ix0]
  rfl
theorem set_1 {env : Env} {c : Int} : setIO env ⟨pO rest a b tl, e⟩ (.int c) (.ref 1) (.int 1) = .nx env ⟨pO rest a c tl, e⟩ := by
  rw [setIO_ref pO_1 ix1]
  rfl
theorem pop_0 {c : Int} : mt ⟨pO (c :: rest) a b tl, e⟩ .popi 0 [.int 0] = .ok (.v (.int c)) ⟨pO rest a b tl, e⟩ := by
  have h1 : ixN ((c :: rest).map D.int).length 0 = some 0 := by
    show L2.ixN _ _ = _
    unfold L2.ixN
    simp
  unfold mt
  simp only [pO_0, h1]
  rfl
theorem pow18 {objs : List Ob} : binop objs .pow (.int 10) (.int 18) = some (.v (.int 1000000000000000000)) := rfl
theorem pow20 {objs : List Ob} : binop objs .pow (.int 10) (.int 20) = some (.v (.int 100000000000000000000)) := rfl
/-- the second half of a draw -/
theorem draw2 {n : Nat} {many : Int} {x y z : Sl} {s : St} (hp : pOk a b) (hm : 0 < many ∧ many < 1000000) (hs : s.objs.length = tl.length + 2) :
    ∃ r a' b', retF false s (exS (callF P n) b_law_draw.snd [.val (.ref 1), .val (.int many), x, y, z] ⟨pO rest a b tl, none⟩) = .ok (.v (.int r)) ⟨pO rest a' b' tl, s.esc⟩ ∧ 0 ≤ r ∧ r < many ∧ pOk a' b' := by
  obtain ⟨h1, h2, h3⟩ := hp
  by_cases z : 0 < a
  · refine ⟨a % many, a / many, b, ?_, Int.emod_nonneg _ (by omega), Int.emod_lt_of_pos _ hm.1, Int.ediv_nonneg h1 (by omega), h2, h3⟩
    simp [b_law_draw, S.snd, p_0, z, b_mod hm.1, b_div (m := a) (n := many) (by omega), set_0]
    exact leave_len (by rfl) (by rw [pO_len, hs])
  · refine ⟨((b * 48271 + 11) % 2147483647) * ((b * 48271 + 11) % 2147483647) % 2147483629 / 32 % many, a, (b * 48271 + 11) % 2147483647, ?_, Int.emod_nonneg _ (by omega), Int.emod_lt_of_pos _ hm.1, h1, Int.emod_nonneg _ (by decide), ?_⟩
    · simp [b_law_draw, S.snd, p_0, p_1, z, b_mod (n := 2147483647) (by decide), b_mulR (n := 48271) (by decide), set_1, b_mulL (m := (b * 48271 + 11) % 2147483647) (n := (b * 48271 + 11) % 2147483647) (by omega), b_mod (n := 2147483629) (by decide), b_div (n := 32) (by decide), b_mod hm.1]
      exact leave_len (by rfl) (by rw [pO_len, hs])
    · have := Int.emod_lt_of_pos (b * 48271 + 11) (show (0 : Int) < 2147483647 by decide)
      omega
theorem draw_ok {n : Nat} {many : Int} (hp : pOk a b) (hm : 0 < many ∧ many < 1000000) :
    ∃ r rest' a' b', callF P (n + 1) (.fn 17) [.val (.ref 1), .val (.int many)] ⟨pO rest a b tl, e⟩ = .ok (.v (.int r)) ⟨pO rest' a' b' tl, e⟩ ∧ 0 ≤ r ∧ r < many ∧ pOk a' b' := by
  obtain ⟨h1, h2, h3⟩ := hp
  have sp : b_law_draw = .seq b_law_draw.fst b_law_draw.snd := rfl
  rw [e_law_draw, sp]
  by_cases z : a = 0
  · cases rest with
    | nil =>
      obtain ⟨r, a', b', q1, q2, q3, q4⟩ := draw2 (n := n) (rest := []) (tl := tl) (x := .no) (y := .no) (z := .no) (s := ⟨pO [] a b tl, e⟩) ⟨h1, h2, h3⟩ hm rfl
      refine ⟨r, [], a', b', ?_, q2, q3, q4⟩
      simp [b_law_draw, S.fst, p_0, p_2, z, c_neRef (is := []) pO_0] at q1 ⊢
      exact q1
    | cons c rest =>
      have big : ∀ k : Int, pOk (if 1000000000000000000 ≤ k then k else 0) ((b + k * 69621) % 2147483629 + 3) := fun k => by
        have w1 := Int.emod_nonneg (b + k * 69621) (show (2147483629 : Int) ≠ 0 by decide)
        have w2 := Int.emod_lt_of_pos (b + k * 69621) (show (0 : Int) < 2147483629 by decide)
        refine ⟨?_, by omega, by omega⟩
        split <;> omega
      obtain ⟨r, a', b', q1, q2, q3, q4⟩ := draw2 (n := n) (rest := rest) (tl := tl) (x := .val (.int c)) (y := .val (.int (szI c))) (z := .no) (s := ⟨pO (c :: rest) a b tl, e⟩) (big (szI c)) hm rfl
      refine ⟨r, rest, a', b', ?_, q2, q3, q4⟩
      have e1 : exS (callF P n) b_law_draw.fst [.val (.ref 1), .val (.int many), .no, .no, .no] ⟨pO (c :: rest) a b tl, none⟩ = .nx [.val (.ref 1), .val (.int many), .val (.int c), .val (.int (szI c)), .no] ⟨pO rest (if 1000000000000000000 ≤ szI c then szI c else 0) ((b + szI c * 69621) % 2147483629 + 3) tl, none⟩ := by
        subst z
        by_cases w : 0 ≤ c
        · have e : szI c = 2 * c := if_pos w
          by_cases w2 : 1000000000000000000 ≤ 2 * c <;> simp [b_law_draw, S.fst, p_0, p_1, p_2, c_neRef (is := c :: rest) pO_0, pop_0, w, e, w2, b_mulL (m := 2) (by decide), b_mulR (n := 69621) (by decide), pow18, b_mod (n := 2147483629) (by decide), set_0, set_1]
        · have e : szI c = -1 - 2 * c := if_neg w
          by_cases w2 : 1000000000000000000 ≤ -1 - 2 * c <;> simp [b_law_draw, S.fst, p_0, p_1, p_2, c_neRef (is := c :: rest) pO_0, pop_0, w, e, w2, b_mulL (m := 2) (by decide), b_mulR (n := 69621) (by decide), pow18, b_mod (n := 2147483629) (by decide), set_0, set_1]
      simp only [List.length_cons, List.length_nil, if_true, List.cons_append, List.nil_append, ex_seq]
      rw [e1, seqO_nx]
      exact q1
  · obtain ⟨r, a', b', q1, q2, q3, q4⟩ := draw2 (n := n) (rest := rest) (tl := tl) (x := .no) (y := .no) (z := .no) (s := ⟨pO rest a b tl, e⟩) ⟨h1, h2, h3⟩ hm rfl
    refine ⟨r, rest, a', b', ?_, q2, q3, q4⟩
    simp [b_law_draw, S.fst, p_0, p_2, z] at q1 ⊢
    exact q1
end
end Ev

set_option Elab.async false
set_option linter.all false
set_option maxRecDepth 100000
namespace Ev
open PySem
theorem cut_from {α : Type} {xs : List α} {k : Nat} : cut xs (some (k : Int)) none = xs.drop k := by
  unfold cut
  rw [show sIx xs.length 0 (some (k : Int)) = min k xs.length from HT.sIx_nat _ _ _, show sIx xs.length xs.length none = xs.length from rfl]
  have : xs.drop (min k xs.length) = xs.drop k := by
    by_cases h : k ≤ xs.length
    · rw [Nat.min_eq_left h]
    · rw [Nat.min_eq_right (by omega), List.drop_length, List.drop_eq_nil_of_le (by omega)]
  rw [this, List.take_of_length_le]
  rw [List.length_drop]
  omega
theorem cut_to {α : Type} {xs : List α} {k : Nat} : cut xs none (some (k : Int)) = xs.take k := by
  unfold cut
  rw [show sIx xs.length xs.length (some (k : Int)) = min k xs.length from HT.sIx_nat _ _ _, show sIx xs.length 0 none = 0 from rfl]
  simp only [List.drop_zero, Nat.sub_zero]
  by_cases h : k ≤ xs.length
  · rw [Nat.min_eq_left h]
  · rw [Nat.min_eq_right (by omega), List.take_length, List.take_of_length_le (by omega)]
@[simp] theorem sl_scr {objs : List Ob} {ds : List D} {l h : Option Int} : slice objs (.scr ds) l h = some (.n (cut ds l h)) := rfl
@[simp] theorem sl_tup {objs : List Ob} {ds : List D} {l h : Option Int} : slice objs (.tup ds) l h = some (.v (.tup (cut ds l h))) := rfl
@[simp] theorem bi_listL {objs : List Ob} {ds : List D} : bi objs .list [.lst ds] = some (.n ds) := rfl
theorem at_0 {α : Type} {x : α} {xs : List α} : L2.atI (x :: xs) 0 = some x := by
  unfold L2.atI L2.ixN
  simp
theorem pool_ok {n : Nat} {ns : List Int} : ∃ (rest : List Int) (a b : Int), callF P (n + 1) (.fn 16) [.val (.scr (ns.map .int))] ⟨[], none⟩ = .ok (.n [.int a, .int b, .ref 0]) ⟨[.lst (rest.map .int)], none⟩ ∧ pOk a b := by
  have gen : ∀ k : Int, pOk (if 1000000000000000000 ≤ k then k else 0) ((k * 48271 + 1009) % 2147483629 + 3) := fun k => by
    have w1 := Int.emod_nonneg (k * 48271 + 1009) (show (2147483629 : Int) ≠ 0 by decide)
    have w2 := Int.emod_lt_of_pos (k * 48271 + 1009) (show (0 : Int) < 2147483629 by decide)
    refine ⟨?_, by omega, by omega⟩
    split <;> omega
  have lv : ∀ {a b : Int} {r : List Int}, leaveX true ⟨[], none⟩ (.n [.int a, .int b, .ref 0]) ⟨[.lst (r.map .int)], none⟩ = .ok (.n [.int a, .int b, .ref 0]) ⟨[.lst (r.map .int)], none⟩ := rfl
  rw [e_law_pool]
  cases ns with
  | nil =>
    refine ⟨[], 0, 1012, ?_, by decide, by decide, by decide⟩
    have c := cut_from (xs := ([] : List D)) (k := 1)
    simp at c
    simp [b_law_pool, b_mulL (m := 2) (by decide), b_mulR (n := 48271) (by decide), pow18, b_mod (n := 2147483629) (by decide), c]
    exact lv (r := [])
  | cons c ns =>
    refine ⟨ns, (if 1000000000000000000 ≤ szI c then szI c else 0), (szI c * 48271 + 1009) % 2147483629 + 3, ?_, gen _⟩
    have cc := cut_from (xs := (c :: ns).map D.int) (k := 1)
    simp at cc
    have i0 : idx [] (.scr (D.int c :: ns.map D.int)) (.int 0) = some (.int c) := at_0
    by_cases w : 0 ≤ c
    · have e : szI c = 2 * c := if_pos w
      by_cases w2 : 1000000000000000000 ≤ 2 * c <;> simp [b_law_pool, e, w, w2, i0, b_mulL (m := 2) (by decide), b_mulR (n := 48271) (by decide), pow18, b_mod (n := 2147483629) (by decide), cc] <;> exact lv
    · have e : szI c = -1 - 2 * c := if_neg w
      by_cases w2 : 1000000000000000000 ≤ -1 - 2 * c <;> simp [b_law_pool, e, w, w2, i0, b_mulL (m := 2) (by decide), b_mulR (n := 48271) (by decide), pow18, b_mod (n := 2147483629) (by decide), cc] <;> exact lv
/-! ### a drawn row -/
theorem mt_append {o : List Ob} {e : Option Nat} {n : Nat} {ds : List D} {d : D} (h : o[n]? = some (.lst ds)) (hl : ds.length < sizeLine) (hd : D.nr d = true) : mt ⟨o, e⟩ .append n [d] = .ok (.v .non) ⟨o.set n (.lst (ds ++ [d])), e⟩ := by
  unfold mt
  simp only [h, hl, if_true, setO, escW, hd]
theorem pO_at {rest : List Int} {a b : Int} {tl : List Ob} {i : Nat} : (pO rest a b tl)[i + 2]? = tl[i]? := rfl
theorem pO_set {rest : List Int} {a b : Int} {tl : List Ob} {i : Nat} {o : Ob} : (pO rest a b tl).set (i + 2) o = pO rest a b (tl.set i o) := rfl
theorem snoc_at {tl : List Ob} {o : Ob} : (tl ++ [o])[tl.length]? = some o := by simp
theorem snoc_set {tl : List Ob} {o o' : Ob} : (tl ++ [o]).set tl.length o' = tl ++ [o'] := by simp
/-- a pool, more objects behind it -/
theorem row_ok {n : Nat} {rest : List Int} {a b gaps top : Int} {tl : List Ob} {e : Option Nat} (hp : pOk a b) (hg : 1 ≤ gaps ∧ gaps ≤ 5) (ht : 1 ≤ top ∧ top ≤ 99) :
    ∃ (is rest' : List Int) (a' b' : Int), callF P (n + 2) (.fn 20) [.val (.ref 1), .val (.int gaps), .val (.int top)] ⟨pO rest a b tl, e⟩ = .ok (.v (.tup (is.map .int))) ⟨pO rest' a' b' tl, e⟩ ∧ is.length ≤ 10 ∧ (∀ i ∈ is, 1 ≤ i ∧ i ≤ 99) ∧ pOk a' b' := by
  obtain ⟨way, r1, a1, b1, q1, w1, w2, hp1⟩ := draw_ok (n := n) (rest := rest) (tl := tl) (e := none) (many := 12) hp (by decide)
  rw [e_law_row_drawn]
  simp [b_law_row_drawn, q1]
  by_cases hw : way = 0
  · refine ⟨[], r1, a1, b1, ?_, by simp, by simp, hp1⟩
    simp [hw]
    exact leave_cut (o := pO r1 a1 b1 tl) (e := [.lst []]) (by rfl) (by simp [pO])
  · obtain ⟨m, r2, a2, b2, q2, m1, m2, hp2⟩ := draw_ok (n := n) (rest := r1) (a := a1) (b := b1) (tl := tl ++ [.lst []]) (e := none) (many := gaps) hp1 (by omega)
    have ps : pO r1 a1 b1 tl ++ [.lst []] = pO r1 a1 b1 (tl ++ [.lst []]) := rfl
    simp [hw, ps, q2, items_rng1 (b := 1 + m) (by omega)]
    refine for_wp (G := fun o => ∃ (is rest' : List Int) (a' b' : Int), retF false ⟨pO rest a b tl, e⟩ o = .ok (.v (.tup (is.map .int))) ⟨pO rest' a' b' tl, e⟩ ∧ is.length ≤ 10 ∧ (∀ i ∈ is, 1 ≤ i ∧ i ≤ 99) ∧ pOk a' b')
      (fun i env t => ∃ (is r : List Int) (a b : Int) (w1 w2 : Sl), t = ⟨pO r a b (tl ++ [.lst (is.map .int)]), none⟩ ∧ env = [.val (.ref 1), .val (.int gaps), .val (.int top), .val (.int way), .val (.ref (tl.length + 2)), w1, w2] ∧ is.length = i ∧ (∀ i ∈ is, 1 ≤ i ∧ i ≤ 99) ∧ pOk a b)
      ⟨[], r2, a2, b2, _, _, rfl, rfl, rfl, by simp, hp2⟩ ?_ ?_ ?_
    · rintro i env t ⟨is, r, a, b, w1, w2, rfl, _⟩; rfl
    · rintro i x env t hx ⟨is, r, a, b, w1, w2, rfl, rfl, hl, hb, hp3⟩
      obtain ⟨li, rfl⟩ := rng_at hx
      have ha : ∀ {r : List Int} {a b : Int}, (pO r a b (tl ++ [.lst (is.map .int)]))[tl.length + 2]? = some (.lst (is.map .int)) := fun {r a b} => by rw [pO_at, snoc_at]
      have hz : (is.map D.int).length < sizeLine := by
        rw [List.length_map, hl, sizeLine_eq]
        omega
      have fin : ∀ (d lim : Int), 0 ≤ d → d < lim → lim ≤ 99 → (is ++ [1 + d]).length = i + 1 ∧ ∀ j ∈ is ++ [1 + d], 1 ≤ j ∧ j ≤ 99 := fun d lim d1 d2 d3 => by
        refine ⟨by simp [hl], fun j hj => ?_⟩
        rcases List.mem_append.mp hj with z | z
        · exact hb j z
        · rw [List.mem_singleton.mp z]
          omega
      obtain ⟨d1, r1', a1', b1', u1, u2, u3, u4⟩ := draw_ok (n := n) (rest := r) (a := a) (b := b) (tl := tl ++ [.lst (is.map .int)]) (e := none) (many := 99) hp3 (by omega)
      obtain ⟨d2, r2', a2', b2', v1, v2, v3, v4⟩ := draw_ok (n := n) (rest := r) (a := a) (b := b) (tl := tl ++ [.lst (is.map .int)]) (e := none) (many := top) hp3 (by omega)
      have A : ∀ {r' : List Int} {a' b' d : Int}, mt ⟨pO r' a' b' (tl ++ [.lst (is.map .int)]), none⟩ .append (tl.length + 2) [.int (1 + d)] = .ok (.v .non) ⟨pO r' a' b' (tl ++ [.lst ((is ++ [1 + d]).map .int)]), none⟩ := fun {r' a' b' d} => by
        rw [mt_append ha hz (show D.nr (.int (1 + d)) = true from rfl), pO_set, snoc_set]
        simp
      generalize hF : frB _ _ _ _ _ = F
      by_cases c1 : way = 1 <;> by_cases c2 : i = 0
      · simp [c1, c2, u1, A, -List.map_append] at hF
        subst hF c1 c2
        exact ⟨is ++ [1 + d1], _, _, _, _, _, rfl, rfl, (fin d1 99 u2 u3 (by omega)).1, (fin d1 99 u2 u3 (by omega)).2, u4⟩
      all_goals
        simp [c1, c2, v1, A, -List.map_append] at hF
        subst hF
        try subst c1
        exact ⟨is ++ [1 + d2], _, _, _, _, _, rfl, rfl, (fin d2 top v2 v3 ht.2).1, (fin d2 top v2 v3 ht.2).2, v4⟩
    · rintro env t ⟨is, r, a3, b3, w1, w2, rfl, rfl, hl, hb, hp3⟩
      rw [rng_len] at hl
      have hl5 : is.length ≤ 5 := by omega
      have sq : bi (pO r a3 b3 (tl ++ [.lst (is.map .int)])) .tuple [.ref (tl.length + 2)] = some (.v (.tup (is.map .int))) := by
        show (seqOf _ _).map _ = _
        rw [seq_ref (ds := is.map .int) (by rw [pO_at, snoc_at])]
        rfl
      have lv : ∀ js : List Int, leaveX false ⟨pO rest a b tl, e⟩ (.v (.tup (js.map .int))) ⟨pO r a3 b3 (tl ++ [.lst (is.map .int)]), none⟩ = .ok (.v (.tup (js.map .int))) ⟨pO r a3 b3 tl, e⟩ := fun js =>
        leave_cut (s := ⟨pO rest a b tl, e⟩) (o := pO r a3 b3 tl) (e := [.lst (is.map .int)]) (by simp) (by simp [pO])
      have c13 : ((is.length : Int) < 13) := by omega
      by_cases c : way = 2
      · refine ⟨is ++ is, r, a3, b3, ?_, by simp; omega, fun j hj => (List.mem_append.mp hj).elim (hb j) (hb j), hp3⟩
        have ad : binop (pO r a3 b3 (tl ++ [.lst (is.map .int)])) .add (.tup (is.map .int)) (.tup (is.map .int)) = some (.v (.tup ((is ++ is).map .int))) := by
          rw [b_addT (by rw [List.length_map, sizeLine_eq]; omega), List.map_append]
        simp [c, sq, c13, ad, lv, -List.map_append]
      · refine ⟨is, r, a3, b3, ?_, by omega, hb, hp3⟩
        simp [c, sq, lv]
end Ev

set_option Elab.async false
set_option linter.all false
set_option maxRecDepth 100000
namespace Ev
open PySem
/-! ### what is heard -/
def tags : List (Nat × Str) := [(1, "k"), (2, "row"), (3, "rows"), (6, "view"), (7, "ts"), (5, "many"), (12, "weights"), (4, "no dots"), (8, "no fit"), (13, "no room"), (9, "blank"), (10, "shared"), (11, "thin")]
theorem heard_rs {n l : Nat} {ws : List Sl} {c : Nat} {w : D} {t : Str} {s : St} (h : ∀ s', callF P n (.lam l ws) [] s' = .rs c w s') (hc : lookC tags c = some t) (hw : ∀ m, D.lo m w = true) : callF P (n + 1) (.fn 21) [.lam l ws] s = .ok (.v (.tup [.str t, w])) s := by
  have hc' : lookC [(1, "k"), (2, "row"), (3, "rows"), (6, "view"), (7, "ts"), (5, "many"), (12, "weights"), (4, "no dots"), (8, "no fit"), (13, "no room"), (9, "blank"), (10, "shared"), (11, "thin")] c = some t := hc
  rw [e_law_kind_heard]
  simp [b_law_kind_heard, h, hc', hw, leave_same]
theorem heard_ok {n l : Nat} {ws : List Sl} {d : D} {s : St} (h : ∀ s', callF P n (.lam l ws) [] s' = .ok (.v d) s') (hd : ∀ m, D.lo m d = true) : callF P (n + 1) (.fn 21) [.lam l ws] s = .ok (.v (.tup [.str "is", d])) s := by
  rw [e_law_kind_heard]
  simp [b_law_kind_heard, h, hd, leave_same]
/-! ### texts -/
theorem rp_pair {t : Str} {i : Int} (ht : PyData.strOk t = true) (hl : (reprText t).length ≤ 100) (hi : -(2 ^ 200) < i ∧ i < 2 ^ 200) : rpOk (.tup [.str t, .int i]) = true := by
  have a1 : decide (-(2 ^ 200) < i) = true := decide_eq_true hi.1
  have a2 : decide (i < 2 ^ 200) = true := decide_eq_true hi.2
  have a3 : (reprText t).length + 2 + (1921 + 2 + 0) + 3 ≤ sizeLine := by rw [sizeLine_eq]; omega
  simp only [rpOk, scal, pdOk, pdOkL, fuelP, okI, okIL, szD, szL, ht, a1, a2, Bool.not_false, Bool.and_self]
  rw [Bool.true_and]
  exact decide_eq_true a3
theorem tag_ok : ∀ t ∈ ("is" : Str) :: tags.map (·.2), PyData.strOk t = true ∧ (reprText t).length ≤ 100 := by
  have h : (("is" : Str) :: tags.map (·.2)).all (fun t => PyData.strOk t && decide ((reprText t).length ≤ 100)) = true := by decide +kernel
  intro t m
  have := List.all_eq_true.mp h t m
  simpa using this
theorem rp_is {i : Int} (hi : -(2 ^ 200) < i ∧ i < 2 ^ 200) : rpOk (.tup [.str "is", .int i]) = true := rp_pair (tag_ok _ (List.mem_cons_self ..)).1 (tag_ok _ (List.mem_cons_self ..)).2 hi
theorem rp_tag {t : Str} {i : Int} (m : t ∈ tags.map (·.2)) (hi : -(2 ^ 200) < i ∧ i < 2 ^ 200) : rpOk (.tup [.str t, .int i]) = true := rp_pair (tag_ok _ (List.mem_cons_of_mem _ m)).1 (tag_ok _ (List.mem_cons_of_mem _ m)).2 hi
/-! ### greatest common divisors -/
def mu1 (env : Env) : Nat := match (env[1]? : Option Sl) with
  | some (.val (.int y)) => y.toNat
  | _ => 0
theorem k_law_gcd {n : Nat} {p q : Int} {s : St} (hp : 0 ≤ p) (hq : 0 ≤ q ∧ q < 1000) : callF P (n + 1) (.fn 18) [.val (.int p), .val (.int q)] s = .ok (.v (.int (Nat.gcd p.natAbs q.natAbs : Int))) s := by
  rw [e_law_row_gcd]
  simp [b_law_row_gcd]
  refine wh_wp (G := fun o => retF false s o = R.ok (.v (.int (Nat.gcd p.natAbs q.natAbs : Int))) s) (fun env t => ∃ x y : Int, t = ⟨s.objs, none⟩ ∧ env = [.val (.int x), .val (.int y)] ∧ 0 ≤ x ∧ 0 ≤ y ∧ Nat.gcd x.natAbs y.natAbs = Nat.gcd p.natAbs q.natAbs) mu1 ⟨p, q, rfl, rfl, hp, hq.1, rfl⟩ ?_ ?_
  · show q.toNat < 1000000000
    omega
  · rintro env t ⟨x, y, rfl, rfl, hx, hy, hg⟩
    by_cases z : y = 0
    · refine ⟨false, ⟨s.objs, none⟩, by simp [z], ?_⟩
      subst z
      have e : (Nat.gcd p.natAbs q.natAbs : Int) = x := by
        rw [← hg]
        simp
        omega
      simp [e, leave_same]
    · have y0 : 0 < y := by omega
      refine ⟨true, ⟨s.objs, none⟩, by simp [z], ?_⟩
      rw [if_pos rfl]
      have r1 := Int.emod_nonneg x (show y ≠ 0 by omega)
      have r2 := Int.emod_lt_of_pos x y0
      generalize hF : exS _ _ _ _ = F
      simp [b_mod y0] at hF
      subst hF
      refine ⟨⟨y, x % y, rfl, rfl, hy, r1, ?_⟩, ?_⟩
      · rw [← hg]
        have e : (x % y).natAbs = x.natAbs % y.natAbs := Int.natAbs_emod_of_nonneg hx y
        rw [e, Nat.gcd_comm x.natAbs y.natAbs, Nat.gcd_rec y.natAbs x.natAbs, Nat.gcd_comm]
      · show (x % y).toNat < y.toNat
        omega
theorem k_law_low {n : Nat} {p q : Int} {s : St} (hp : 0 < p ∧ p < 1000) (hq : 0 ≤ q ∧ q < 1000) : callF P (n + 2) (.fn 19) [.val (.int p), .val (.int q)] s = .ok (.v (low p q)) s := by
  have g1 : 0 < Nat.gcd p.natAbs q.natAbs := Nat.gcd_pos_of_pos_left _ (by omega)
  have g2 : Nat.gcd p.natAbs q.natAbs ≤ p.natAbs := Nat.gcd_le_left _ (by omega)
  rw [e_law_row_low]
  simp [b_law_row_low, leave_same, k_law_gcd (p := p) (by omega) hq, b_div (n := (Nat.gcd p.natAbs q.natAbs : Int)) (by omega), low]
/-! ### counting up -/
theorem k_counted {n : Nat} {k : Int} {is : List Int} {s : St} (h1 : is ≠ []) (h2 : rowOk is) : callF P (n + 1) (.fn 24) [.val (.int k), .val (.tup (is.map .int))] s = .ok (.v (.int (thick k is))) s := by
  have hp : 0 < is.length := List.length_pos_iff.mpr h1
  have hs : ∀ l : List Int, (∀ i ∈ l, 1 ≤ i ∧ i ≤ 99) → l.sum ≤ 99 * l.length := by
    intro l
    induction l with
    | nil => intro _; simp
    | cons i l ih =>
      intro h
      have a1 := h i (List.mem_cons_self ..)
      have a2 := ih fun j m => h j (List.mem_cons_of_mem _ m)
      simp only [List.sum_cons, List.length_cons]
      omega
  have hsum := hs is h2.2
  have hl := h2.1
  rw [e_law_thick_counted]
  have e200 : ∀ objs : List Ob, items objs .rng1 [.int 200] = some (rngL 0 200) := fun objs => items_rng1 ⟨by decide, by decide⟩
  simp [b_law_thick_counted, e200]
  refine for_wp (G := fun o => retF false s o = R.ok (.v (.int (thick k is))) s) (fun i env t => t = ⟨s.objs, none⟩ ∧ (∃ w, env = [.val (.int k), .val (.tup (is.map .int)), .val (.int (i : Int)), w]) ∧ ∀ j : Nat, j < i → (j : Int) * is.length < 2 * is.sum) ⟨rfl, ⟨_, rfl⟩, fun j lt => absurd lt (Nat.not_lt_zero j)⟩ ?_ ?_ ?_
  · rintro i env t ⟨rfl, _⟩; rfl
  · rintro i x env t hx ⟨rfl, ⟨w, rfl⟩, hj⟩
    have hh : i < 200 ∧ x = .int (i : Int) := by
      have h1 := (rng_at hx).1
      have h2 := (rng_at hx).2
      rw [Int.zero_add] at h2
      exact ⟨by omega, h2⟩
    clear hx
    have li := hh.1
    have e := hh.2
    clear hh
    subst e
    have cs := Int.lt_or_le ((i : Int) * is.length) (2 * is.sum)
    cases cs with
    | inr c =>
      have e : thick k is = (i : Int) - k := by
        unfold thick
        congr 1
        have lo : (i : Int) * is.length ≤ 2 * is.sum + is.length - 1 := by
          cases i with
          | zero =>
            have : (0 : Int) ≤ is.sum := by
              have q : ∀ l : List Int, (∀ i ∈ l, 1 ≤ i ∧ i ≤ 99) → 0 ≤ l.sum := by
                intro l
                induction l with
                | nil => intro _; simp
                | cons i l ih =>
                  intro h
                  have a1 := h i (List.mem_cons_self ..)
                  have a2 := ih fun j m => h j (List.mem_cons_of_mem _ m)
                  simp only [List.sum_cons]
                  omega
              exact q is h2.2
            simp
            omega
          | succ j =>
            have := hj j (Nat.lt_succ_self j)
            rw [show ((j + 1 : Nat) : Int) = (j : Int) + 1 by omega, Int.add_mul]
            omega
        have hi : 2 * is.sum + is.length - 1 < ((i : Int) + 1) * is.length := by
          rw [Int.add_mul]
          omega
        have a := (Int.le_ediv_iff_mul_le (show (0 : Int) < is.length by omega)).mpr lo
        have b := (Int.ediv_lt_iff_lt_mul (show (0 : Int) < is.length by omega)).mpr hi
        omega
      simp [b_mulL (m := (i : Int)) (n := (is.length : Int)) (by omega), b_mulL (m := 2) (by decide), c, e, leave_same]
    | inl c =>
      have c' : ¬ 2 * is.sum ≤ (i : Int) * is.length := by omega
      simp [b_mulL (m := (i : Int)) (n := (is.length : Int)) (by omega), b_mulL (m := 2) (by decide), c']
      intro j lt
      by_cases q : j = i
      · subst q; omega
      · exact hj j (by omega)
  · rintro env t ⟨rfl, ⟨w, rfl⟩, hj⟩
    have := hj 198 (by simp)
    omega
end Ev

set_option Elab.async false
set_option linter.all false
set_option maxRecDepth 100000
namespace Ev
open PySem
theorem thick_bd {k : Int} {is : List Int} (hk : 1 ≤ k ∧ k ≤ 60) (h1 : is ≠ []) (h2 : rowOk is) : -(2 ^ 200) < thick k is ∧ thick k is < 2 ^ 200 := by
  have hp : 0 < is.length := List.length_pos_iff.mpr h1
  have hs : ∀ l : List Int, (∀ i ∈ l, 1 ≤ i ∧ i ≤ 99) → 0 ≤ l.sum ∧ l.sum ≤ 99 * l.length := by
    intro l
    induction l with
    | nil => intro _; simp
    | cons i l ih =>
      intro h
      have a1 := h i (List.mem_cons_self ..)
      have a2 := ih fun j m => h j (List.mem_cons_of_mem _ m)
      simp only [List.sum_cons, List.length_cons]
      omega
  have hsum := hs is h2.2
  have hl := h2.1
  have q0 : 0 ≤ (2 * is.sum + is.length - 1) / (is.length : Int) := Int.ediv_nonneg (by omega) (by omega)
  have q1 : (2 * is.sum + is.length - 1) / (is.length : Int) ≤ 2 * is.sum + is.length - 1 := Int.ediv_le_self _ (by omega)
  unfold thick
  omega
section
variable {n : Nat} {s : St} {k : Int} {is : List Int}
theorem lam0_ok (hk : 1 ≤ k ∧ k ≤ 60) (h1 : is ≠ []) (h2 : rowOk is) : ∀ s', callF P (n + 6) (.lam 0 [.val (.int k), .val (.tup (is.map .int))]) [] s' = .ok (.v (.int (thick k is))) s' := fun s' => by
  rw [el_0]
  simp [k_thick_ok hk h1 h2, leave_same]
theorem lam0_dark (hk : 1 ≤ k ∧ k ≤ 60) : ∀ s', callF P (n + 6) (.lam 0 [.val (.int k), .val (.tup [])]) [] s' = .rs 4 (.int 0) s' := fun s' => by
  have hb : btw 1 60 (.int k) = true := by simp [btw]; omega
  rw [el_0]
  simp [k_thick_dark hb, leaveR_same]
theorem str_eq {x : Str} : (x == x) = true := by simp
theorem k_row_right (hk : 1 ≤ k ∧ k ≤ 60) (h2 : rowOk is) : callF P (n + 8) (.fn 25) [.val (.int k), .val (.tup (is.map .int))] s = .ok (.v (.bl true)) s := by
  have eu : ∀ objs : List Ob, cmp objs .eq (.tup (is.map .int)) (.tup []) = some is.isEmpty := fun objs => eq_unit h2.2
  rw [e_law_thick_row_right]
  by_cases z : is = []
  · subst z
    have hh := heard_rs (s := ⟨s.objs, none⟩) (t := "no dots") (lam0_dark (n := n) hk) rfl (fun _ => rfl)
    have rp : rpOk (.tup [.str "no dots", .int 0]) = true := rp_tag (by simp [tags]) (by decide)
    simp only [List.map_nil] at eu
    simp [b_law_thick_row_right, capt, Sl.keep, hh, eu, bi_repr rp, c_eqS, leave_same]
  · have z' : is.isEmpty = false := by simpa using z
    have hh := heard_ok (s := ⟨s.objs, none⟩) (lam0_ok (n := n) hk z h2) (fun _ => rfl)
    have rp : rpOk (.tup [.str "is", .int (thick k is)]) = true := rp_is (thick_bd hk z h2)
    simp [b_law_thick_row_right, capt, Sl.keep, hh, eu, z', k_counted (n := n + 6) z h2, bi_repr rp, c_eqS, leave_same]
theorem foldl_max {m : Int} : ∀ l : List Int, l.foldl max m = max m (l.foldl max m) := by
  intro l
  induction l generalizing m with
  | nil => simp
  | cons i l ih =>
    simp only [List.foldl_cons]
    have := ih (m := max m i)
    omega
theorem mx_zero (h : is ≠ []) (h1 : ∀ i ∈ is, 1 ≤ i) : mx (is ++ [0]) = mx is := by
  cases is with
  | nil => exact absurd rfl h
  | cons i is =>
    have h2 := h1 i (List.mem_cons_self ..)
    show (is ++ [0]).foldl max i = is.foldl max i
    rw [List.foldl_append]
    have := foldl_max (m := i) is
    simp only [List.foldl_cons, List.foldl_nil]
    omega
theorem mx_bd (h : is ≠ []) (h1 : ∀ i ∈ is, 1 ≤ i ∧ i ≤ 60) : 1 ≤ mx is ∧ mx is ≤ 60 := by
  cases is with
  | nil => exact absurd rfl h
  | cons i is =>
    have gen : ∀ (l : List Int) (m : Int), 1 ≤ m ∧ m ≤ 60 → (∀ i ∈ l, 1 ≤ i ∧ i ≤ 60) → 1 ≤ l.foldl max m ∧ l.foldl max m ≤ 60 := by
      intro l
      induction l with
      | nil => intro m hm _; exact hm
      | cons j l ih =>
        intro m hm hl
        have hj := hl j (List.mem_cons_self ..)
        exact ih (max m j) (by omega) fun i m => hl i (List.mem_cons_of_mem _ m)
    exact gen is i (h1 i (List.mem_cons_self ..)) fun j m => h1 j (List.mem_cons_of_mem _ m)
theorem sum_bd (h1 : ∀ i ∈ is, 1 ≤ i ∧ i ≤ 60) : 0 ≤ is.sum ∧ is.sum ≤ 60 * is.length := by
  induction is with
  | nil => simp
  | cons i l ih =>
    have a1 := h1 i (List.mem_cons_self ..)
    have a2 := ih fun j m => h1 j (List.mem_cons_of_mem _ m)
    simp only [List.sum_cons, List.length_cons]
    omega
theorem rp_ts {v : Int} {b : Bool} (h2 : tsOk is) (hv : -(2 ^ 200) < v ∧ v < 2 ^ 200) : rpOk (.lst [.tup (is.map .int), .int v, .bl b]) = true := by
  have a1 : decide (-(2 ^ 200) < v) = true := decide_eq_true hv.1
  have a2 : decide (v < 2 ^ 200) = true := decide_eq_true hv.2
  have a3 : okIL (is.map D.int) = true := okIL_ints fun i m => by have := h2.2.2 i m; omega
  have a4 : 1923 * is.length + 3 + 2 + (1921 + 2 + (5 + 2 + 0)) + 2 ≤ sizeLine := by
    have := h2.2.1
    rw [sizeLine_eq]; omega
  simp only [rpOk, scal, pdOk, pdOkL, pdOkL_ints, fuelP, okI, okIL, szD, szL, szL_ints, a1, a2, a3, Bool.not_false, Bool.and_self]
  rw [Bool.true_and]
  exact decide_eq_true a4
theorem take_sum {i : Nat} {x : Int} (h : is[i]? = some x) : (is.take (i + 1)).sum = (is.take i).sum + x := by
  rw [List.take_add_one, h, List.sum_append]
  simp
theorem k_ts_right (hk : 1 ≤ k ∧ k ≤ 60) (h2 : tsOk is) : callF P (n + 6) (.fn 26) [.val (.int k), .val (.tup (is.map .int))] s = .ok (.v (.bl true)) s := by
  have ne : is ≠ [] := fun z => by have := h2.1; rw [z] at this; simp at this
  have hm := mx_zero ne fun i m => (h2.2.2 i m).1
  have hb := mx_bd ne h2.2.2
  have hs := sum_bd h2.2.2
  have hl := h2.2.1
  rw [e_law_thick_ts_right]
  simp [b_law_thick_ts_right, bi_maxT ne]
  refine for_wp (G := fun o => retF false s o = R.ok (.v (.bl true)) s) (fun i env t => t = ⟨s.objs, none⟩ ∧ ∃ w, env = [.val (.int k), .val (.tup (is.map .int)), .val (.int (k + mx is - 2 * (is.take i).sum)), w]) ⟨rfl, .no, by simp⟩ ?_ ?_ ?_
  · rintro i env t ⟨rfl, _⟩; rfl
  · rintro i x env t hx ⟨rfl, w, rfl⟩
    rw [List.getElem?_map] at hx
    cases hi : is[i]? with
    | none => rw [hi] at hx; cases hx
    | some j =>
      rw [hi] at hx
      cases hx
      simp
      rw [take_sum hi]
      omega
  · rintro env t ⟨rfl, w, rfl⟩
    have e : (is.take (is.map D.int).length).sum = is.sum := by rw [List.length_map, List.take_length]
    rw [e]
    have rp : ∀ b, rpOk (.lst [.tup (is.map .int), .int (k + mx is - 2 * is.sum), .bl b]) = true := fun b => rp_ts h2 (by omega)
    simp [k_ts_ok (n := n + 2) h2, k_spare_ok (n := n + 1) hk h2, k_fits_ok (n := n) hk h2, hm, bi_repr (rp _), c_eqS, leave_same]
theorem rp_low {x q : Int} (hx : 0 ≤ x ∧ x < 1000) (hq : 0 ≤ q ∧ q < 1000) : rpOk (.lst [.int x, low 2 q]) = true := by
  have g1 : 0 < Nat.gcd (2 : Int).natAbs q.natAbs := Nat.gcd_pos_of_pos_left _ (by decide)
  have b1 : 0 ≤ (2 : Int) / (Nat.gcd (2 : Int).natAbs q.natAbs : Int) := Int.ediv_nonneg (by decide) (by omega)
  have b2 : (2 : Int) / (Nat.gcd (2 : Int).natAbs q.natAbs : Int) ≤ 2 := Int.ediv_le_self _ (by decide)
  have b3 : 0 ≤ q / (Nat.gcd (2 : Int).natAbs q.natAbs : Int) := Int.ediv_nonneg hq.1 (by omega)
  have b4 : q / (Nat.gcd (2 : Int).natAbs q.natAbs : Int) ≤ q := Int.ediv_le_self _ hq.1
  unfold low
  generalize (2 : Int) / (Nat.gcd (2 : Int).natAbs q.natAbs : Int) = u at *
  generalize q / (Nat.gcd (2 : Int).natAbs q.natAbs : Int) = v at *
  have a1 : decide (-(2 ^ 200) < x) = true := decide_eq_true (by omega)
  have a2 : decide (x < 2 ^ 200) = true := decide_eq_true (by omega)
  have a3 : decide (-(2 ^ 200) < u) = true := decide_eq_true (by omega)
  have a4 : decide (u < 2 ^ 200) = true := decide_eq_true (by omega)
  have a5 : decide (-(2 ^ 200) < v) = true := decide_eq_true (by omega)
  have a6 : decide (v < 2 ^ 200) = true := decide_eq_true (by omega)
  simp only [rpOk, scal, pdOk, pdOkL, fuelP, okI, okIL, szD, szL, a1, a2, a3, a4, a5, a6, Bool.not_false, Bool.and_self]
  rw [Bool.true_and]
  exact decide_eq_true (by rw [sizeLine_eq]; decide)
def mu2 (k m : Int) (env : Env) : Nat := match (env[2]? : Option Sl) with
  | some (.val (.int t)) => (k + 1 - t).toNat
  | _ => 0
theorem k_most_right {m : Int} (hk : 1 ≤ k ∧ k ≤ 60) (h2 : 1 ≤ m ∧ m ≤ 30) : callF P (n + 6) (.fn 27) [.val (.int k), .val (.int m)] s = .ok (.v (.bl true)) s := by
  rw [e_law_thick_most_right]
  simp [b_law_thick_most_right]
  refine wh_wp (G := fun o => retF false s o = R.ok (.v (.bl true)) s) (fun env t => ∃ x : Int, t = ⟨s.objs, none⟩ ∧ env = [.val (.int k), .val (.int m), .val (.int x), .no] ∧ 0 ≤ x ∧ (2 * m - 1) * x ≤ k) (mu2 k m) ⟨0, rfl, rfl, by decide, by simp; omega⟩ ?_ ?_
  · show (k + 1 - 0).toNat < 1000000000
    omega
  · rintro env t ⟨x, rfl, rfl, hx, hb⟩
    have xb : x ≤ k := by
      have : 1 * x ≤ (2 * m - 1) * x := Int.mul_le_mul_of_nonneg_right (by omega) hx
      omega
    cases Int.lt_or_le k ((2 * m - 1) * (x + 1)) with
    | inr c =>
      refine ⟨true, ⟨s.objs, none⟩, by simp [b_mulL (m := 2) (by decide), b_mulL (m := 2 * m - 1) (by omega), c], ?_⟩
      rw [if_pos rfl]
      generalize hF : exS _ _ _ _ = F
      simp at hF
      subst hF
      refine ⟨⟨x + 1, rfl, rfl, by omega, c⟩, ?_⟩
      show (k + 1 - (x + 1)).toNat < (k + 1 - x).toNat
      omega
    | inl c =>
      have c' : ¬ (2 * m - 1) * (x + 1) ≤ k := by omega
      refine ⟨false, ⟨s.objs, none⟩, by simp [b_mulL (m := 2) (by decide), b_mulL (m := 2 * m - 1) (by omega), c'], ?_⟩
      have e : k / (2 * m - 1) = x := by
        have a := (Int.le_ediv_iff_mul_le (show (0 : Int) < 2 * m - 1 by omega)).mpr (show x * (2 * m - 1) ≤ k by rw [Int.mul_comm]; exact hb)
        have b := (Int.ediv_lt_iff_lt_mul (show (0 : Int) < 2 * m - 1 by omega)).mpr (show k < (x + 1) * (2 * m - 1) by rw [Int.mul_comm]; exact c)
        omega
      by_cases z : x = 0
      · subst z
        have rp : rpOk (.lst [.int 0, .non]) = true := by decide +kernel
        simp [k_most_ok (n := n + 1) hk h2, k_ld_ok (n := n) hk h2, e, bi_repr rp, c_eqS, leave_same]
      · have z' : (x == 0) = false := by simpa using z
        have rp : rpOk (.lst [.int x, low 2 (k + x)]) = true := rp_low (by omega) (by omega)
        simp [k_most_ok (n := n + 1) hk h2, k_ld_ok (n := n) hk h2, e, z, k_law_low (n := n + 3) (p := 2) (q := k + x) (by decide) (by omega), bi_repr rp, c_eqS, leave_same]
end
end Ev

set_option Elab.async false
set_option linter.all false
set_option maxRecDepth 100000
namespace Ev
open PySem
theorem nr_lo {d : D} {n : Nat} (h : D.nr d = true) : D.lo n d = true := D.lo_mono (Nat.zero_le n) h
/-! ### lists of wrong things -/
def noK : List D := [.int 0, .int (-1), .int 61, .bl true, .bl false, .non, .str "3", .tup [.int 3], .int 100000000000000000000]
theorem noK_bad : ∀ d ∈ noK, btw 1 60 d = false := by simp [noK, btw]
theorem k_no_k {n : Nat} {s : St} : callF P (n + 1) (.fn 22) [] s = .ok (.n noK) s := by
  rw [e_law_kind_no_k]
  simp [b_law_kind_no_k, pow20, noK]
  exact leave_same (by simp)
def oddTs : List D := [.int 0, .int 61, .int (-1), .bl true, .non, .str "1", .tup [.int 1]]
theorem oddTs_bad : ∀ d ∈ oddTs, btw 1 60 d = false ∧ D.nr d = true := by simp [oddTs, btw]
theorem b_mulT {objs : List Ob} {xs : List D} {k : Int} (h : repK xs k = true) : binop objs .mul (.tup xs) (.int k) = some (.v (.tup (repL k xs))) := by
  show (if repK xs k = true then _ else _) = _
  rw [if_pos h]
theorem repL_one {k : Nat} {d : D} : repL (k : Int) [d] = List.replicate k d := by
  unfold repL
  rw [show ((k : Int)).toNat = k from rfl]
  induction k with
  | zero => rfl
  | succ k ih => rw [List.replicate_succ, List.flatten_cons, ih, List.replicate_succ]; rfl
theorem repK_one {k : Int} {d : D} (h : 0 ≤ k ∧ k < 1000) : repK [d] k = true := by
  unfold repK
  have h1 : decide (k < 2 ^ 62) = true := decide_eq_true (by omega)
  have h2 : decide (-(2 ^ 62) < k) = true := decide_eq_true (by omega)
  have h3 : decide ([d].length * k.toNat ≤ sizeLine) = true := decide_eq_true (by rw [sizeLine_eq]; simp only [List.length_cons, List.length_nil]; omega)
  rw [h1, h2, h3]; rfl
/-- a wrong thing and what is due -/
def badTs (x : D) : Prop := ∃ th w, x = .tup [th, .int w] ∧ wrongTs th = some w ∧ D.nr th = true ∧ -1 ≤ w ∧ w ≤ 8
theorem app_last {o : List Ob} {e : Option Nat} {ds : List D} {d : D} (hl : ds.length < sizeLine) (hd : D.lo 0 d = true) : mt ⟨o ++ [.lst ds], e⟩ .append o.length [d] = .ok (.v .non) ⟨o ++ [.lst (ds ++ [d])], e⟩ := by
  rw [mt_append snoc_at hl hd, snoc_set]
theorem leave_ref {s : St} {L : List D} (h : D.loL s.objs.length L = true) : leaveX false s (.v (.ref s.objs.length)) ⟨s.objs ++ [.lst L], none⟩ = .ok (.n L) s := by
  unfold leaveX
  have e : X.res (s.objs ++ [.lst L]) s.objs.length (.v (.ref s.objs.length)) = some (.n L) := by
    simp only [X.res]
    rw [if_neg (Nat.lt_irrefl _)]
    simp [h]
  rw [if_pos (by rfl), e]
  simp
theorem odd_at {is : List Int} {i : Nat} {odd : D} (h : tsOk is) (hi : i < is.length) (ho : btw 1 60 odd = false) : wrongTs (.tup ((is.map D.int).take i ++ [odd] ++ List.replicate (is.length - 1 - i) .non)) = some (i : Int) := by
  have hl : ((is.map D.int).take i ++ [odd] ++ List.replicate (is.length - 1 - i) D.non).length = is.length := by
    simp
    omega
  have h1 := h.1
  have h2 := h.2.1
  have lt : ((is.map D.int).take i).length = i := by simp; omega
  have fb : firstBad 1 60 ((is.map D.int).take i ++ [odd] ++ List.replicate (is.length - 1 - i) D.non) = some i := by
    refine first_at (d := odd) ?_ ho fun j lj x hx => ?_
    · rw [List.append_assoc, List.getElem?_append_right (by omega), lt]
      simp
    · rw [List.append_assoc, List.getElem?_append_left (by omega), List.getElem?_take_of_lt lj] at hx
      obtain ⟨y, hy, rfl⟩ := List.mem_map.mp (List.mem_of_getElem? hx)
      simp [btw, h.2.2 y hy]
  simp only [wrongTs, hl, fb]
  rw [if_pos ⟨h1, h2⟩]
  rfl
theorem k_no_ts {n : Nat} {s : St} {is : List Int} (h : tsOk is) : ∃ L, callF P (n + 1) (.fn 23) [.val (.tup (is.map .int))] s = .ok (.n L) s ∧ ∀ x ∈ L, badTs x := by
  have h2 := h.2.1
  rw [e_law_kind_no_ts]
  have r9 : binop s.objs .mul (.tup [.int 1]) (.int 9) = some (.v (.tup (List.replicate 9 (.int 1)))) := by
    rw [b_mulT (repK_one (by decide))]
    rw [show (9 : Int) = ((9 : Nat) : Int) from rfl, repL_one]
  have base : ∀ x ∈ [D.tup [.non, .int (-1)], .tup [.tup [], .int (-1)], .tup [.int 1, .int (-1)], .tup [.str "1", .int (-1)], .tup [.tup (List.replicate 9 (.int 1)), .int (-1)]], badTs x := by
    intro x hx
    simp only [List.mem_cons, List.not_mem_nil, or_false] at hx
    rcases hx with rfl | rfl | rfl | rfl | rfl <;> exact ⟨_, -1, rfl, rfl, rfl, by decide, by decide⟩
  simp [b_law_kind_no_ts, r9, items_rng1 (b := (is.length : Int)) (by omega)]
  refine for_wp (G := fun o => ∃ L, retF false s o = .ok (.n L) s ∧ ∀ x ∈ L, badTs x)
    (fun i env t => ∃ L w1 w2, t = ⟨s.objs ++ [.lst L], none⟩ ∧ env = [.val (.tup (is.map .int)), .val (.ref s.objs.length), w1, w2] ∧ L.length ≤ 5 + 7 * i ∧ ∀ x ∈ L, badTs x) ⟨_, _, _, rfl, rfl, by simp, base⟩ ?_ ?_ ?_
  · rintro i env t ⟨L, w1, w2, rfl, _⟩; rfl
  · rintro i x env t hx ⟨L, w1, w2, rfl, rfl, hL, hb⟩
    have hh := rng_at hx
    have li : i < is.length := by have := hh.1; omega
    have ex := hh.2
    rw [Int.zero_add] at ex
    subst ex
    clear hh hx
    generalize hF : frB _ _ _ _ _ = F
    simp at hF
    rw [← hF]
    refine for_end (G := fun o => stepO (fun env t => ∃ L w1 w2, t = ⟨s.objs ++ [.lst L], none⟩ ∧ env = [.val (.tup (is.map .int)), .val (.ref s.objs.length), w1, w2] ∧ L.length ≤ 5 + 7 * (i + 1) ∧ ∀ x ∈ L, badTs x) _ o)
      (fun j env t => ∃ L w2, t = ⟨s.objs ++ [.lst L], none⟩ ∧ env = [.val (.tup (is.map .int)), .val (.ref s.objs.length), .val (.int (i : Int)), w2] ∧ L.length ≤ 5 + 7 * i + j ∧ ∀ x ∈ L, badTs x) ⟨L, w2, rfl, rfl, by omega, hb⟩ ?_ ?_ ?_
    · rintro j env t ⟨L, w2, rfl, _⟩; rfl
    · rintro j x env t hx ⟨L, w2, rfl, rfl, hL, hb⟩
      have lj : j < 7 := (List.getElem?_eq_some_iff.mp hx).1
      obtain ⟨o1, o2⟩ := oddTs_bad x (List.mem_of_getElem? hx)
      clear hx
      have hc : cut (is.map D.int) none (some (i : Int)) = (is.map D.int).take i := cut_to
      have hm : ∀ o : List Ob, binop o .mul (.tup [.non]) (.int ((is.length : Int) - 1 - i)) = some (.v (.tup (List.replicate (is.length - 1 - i) .non))) := fun o => by
        rw [b_mulT (repK_one (by omega)), show (is.length : Int) - 1 - i = ((is.length - 1 - i : Nat) : Int) by omega, repL_one]
      have ha1 : ∀ o : List Ob, binop o .add (.tup ((is.map D.int).take i)) (.tup [x]) = some (.v (.tup ((is.map D.int).take i ++ [x]))) := fun o => b_addT (by simp [sizeLine_eq]; omega)
      have ha2 : ∀ o : List Ob, binop o .add (.tup ((is.map D.int).take i ++ [x])) (.tup (List.replicate (is.length - 1 - i) .non)) = some (.v (.tup ((is.map D.int).take i ++ [x] ++ List.replicate (is.length - 1 - i) .non))) := fun o => b_addT (by simp [sizeLine_eq]; omega)
      have nrr : ∀ k : Nat, D.loL 0 (List.replicate k D.non) = true := fun k => by
        induction k with
        | zero => rfl
        | succ k ih => rw [List.replicate_succ]; simp [ih]
      have nrt : D.loL 0 ((is.map D.int).take i) = true := by rw [← List.map_take]; exact loL_ints
      have nr : D.lo 0 (.tup ((is.map D.int).take i ++ [x] ++ List.replicate (is.length - 1 - i) .non)) = true := by
        have o2' : D.lo 0 x = true := o2
        simp [nrr, nrt, o2']
      have ap : mt ⟨s.objs ++ [.lst L], none⟩ .append s.objs.length [.tup [.tup ((is.map D.int).take i ++ [x] ++ List.replicate (is.length - 1 - i) .non), .int (i : Int)]] = .ok (.v .non) ⟨s.objs ++ [.lst (L ++ [.tup [.tup ((is.map D.int).take i ++ [x] ++ List.replicate (is.length - 1 - i) .non), .int (i : Int)]])], none⟩ :=
        app_last (by rw [sizeLine_eq]; omega) (by rw [lo_tup, loL_cons, nr]; rfl)
      generalize hF : frB _ _ _ _ _ = F
      simp [hc, hm, ha1, ha2, ap, -List.append_assoc, -List.map_append] at hF
      subst hF
      refine ⟨_, _, rfl, rfl, by simp; omega, fun y hy => ?_⟩
      rcases List.mem_append.mp hy with z | z
      · exact hb y z
      · rw [List.mem_singleton.mp z]
        exact ⟨_, _, rfl, odd_at h li o1, nr, by omega, by omega⟩
    · rintro env t ⟨L, w2, rfl, rfl, hL, hb⟩
      exact ⟨L, _, _, rfl, rfl, by simp at hL; omega, hb⟩
  · rintro env t ⟨L, w1, w2, rfl, rfl, hL, hb⟩
    refine ⟨L, ?_, hb⟩
    simp
    refine leave_ref ?_
    rw [loL_iff]
    intro x hx
    obtain ⟨th, w, rfl, _, h3, _⟩ := hb x hx
    simp [nr_lo h3]
end Ev

set_option Elab.async false
set_option linter.all false
set_option maxRecDepth 100000
namespace Ev
open PySem
/-! ### a comprehension that keeps nothing -/
theorem still_ref {o e : List Ob} {m : Nat} {ds : List D} (h : o[m]? = some (.lst ds)) (hr : D.eqbL ds ds = true) : still o (o ++ e) [.ref m] = true := by
  have l := (List.getElem?_eq_some_iff.mp h).1
  have h2 : (o ++ e)[m]? = some (.lst ds) := by rw [List.getElem?_append_left l]; exact h
  simp only [still, List.all_cons, List.all_nil, still1, h, h2, hr, Bool.and_self]
theorem lcL_no {n : Nat} {st : St → Bool} {f : D → St → R (Option D)} {s : St} : ∀ ds : List D, st s = true → (∀ d ∈ ds, f d s = .ok none s) → lcL n st f ds s = .ok () s
  | [], h, _ => by simp [lcL, h]
  | d :: ds, h, k => by
    simp only [lcL, h, if_true, k d (List.mem_cons_self ..)]
    exact lcL_no ds h fun x m => k x (List.mem_cons_of_mem _ m)
theorem lc_no {cl : Call} {own : List Nat} {g : G} {j m : Nat} {cs : TL} {el : T} {env : Env} {s : St} {ds : List D} (he : env[j]? = some (.val (.ref m))) (hm : s.objs[m]? = some (.lst ds)) (hr : D.eqbL ds ds = true)
    (ht : ∀ d ∈ ds, ∀ s', lcB (evc cl cs) (ev cl el) g (noL (wipe env own)) d s' = .ok none s') : ev cl (.lc own g .e (.cons (.loc j) .nil) cs el) env s = .ok (.n []) s := by
  have it : items s.objs .e [.ref m] = some ds := seq_ref hm
  rw [ev_lc]
  simp only [evs_cons, ev_loc, he, getV_val, bind_ok', evs_nil, X_v, it, optR_some]
  rw [lcL_no ds (by show still s.objs (s.objs ++ [.lst []]) [.ref m] = true; exact still_ref hm hr) fun d hd => ht d hd _]
  simp only [bind_ok']
  unfold lcE
  simp [escOk]
@[simp] theorem lcB_def {t : Env → St → R Bool} {e : Env → St → R X} {g : G} {env : Env} {d : D} {s : St} : lcB t e g env d s = optR (asg g d env) fun env' => (t env' s).bind fun b s => if b = true then (e env' s).bind fun x s => .ok (some x.d) s else .ok none s := by
  unfold lcB
  cases asg g d env <;> rfl
theorem c_neSame {objs : List Ob} {x : D} (h1 : pdOk fuelP x = true) (h2 : okI x = true) : cmp objs .ne x x = some false := by
  rw [c_neD h1 h2 h1 h2, SeqAt.eqv_refl _ (canLay_ok h1 h2)]
  rfl
/-! ### what is refused -/
def kt : D := .tup [.str "k", .int 0]
theorem kt_ne {objs : List Ob} : cmp objs .ne kt kt = some false := c_neSame (by decide +kernel) (by decide +kernel)
section
variable {n : Nat} {d : D}
theorem l11 (h : btw 1 60 d = false) : ∀ s', callF P (n + 7) (.fn 21) [.lam 11 [.val d]] s' = .ok (.v kt) s' := fun s' => heard_rs (n := n + 6) (c := 1) (w := .int 0) (t := "k") (fun s => by rw [el_11]; simp [k_thick_k h, leaveR_same]) rfl fun _ => rfl
theorem l10 (h : btw 1 60 d = false) : ∀ s', callF P (n + 7) (.fn 21) [.lam 10 [.val d]] s' = .ok (.v kt) s' := fun s' => heard_rs (n := n + 6) (c := 1) (w := .int 0) (t := "k") (fun s => by rw [el_10]; simp [k_spare_k (n := n + 1) h, leaveR_same]) rfl fun _ => rfl
theorem l9 (h : btw 1 60 d = false) : ∀ s', callF P (n + 7) (.fn 21) [.lam 9 [.val d]] s' = .ok (.v kt) s' := fun s' => heard_rs (n := n + 6) (c := 1) (w := .int 0) (t := "k") (fun s => by rw [el_9]; simp [k_fits_k h, leaveR_same]) rfl fun _ => rfl
theorem l8 (h : btw 1 60 d = false) : ∀ s', callF P (n + 7) (.fn 21) [.lam 8 [.val d]] s' = .ok (.v kt) s' := fun s' => heard_rs (n := n + 6) (c := 1) (w := .int 0) (t := "k") (fun s => by rw [el_8]; simp [k_most_k (n := n + 1) h, leaveR_same]) rfl fun _ => rfl
theorem l7 (h : btw 1 60 d = false) : ∀ s', callF P (n + 7) (.fn 21) [.lam 7 [.val d]] s' = .ok (.v kt) s' := fun s' => heard_rs (n := n + 6) (c := 1) (w := .int 0) (t := "k") (fun s => by rw [el_7]; simp [k_ld_k h, leaveR_same]) rfl fun _ => rfl
end
def tt (w : Int) : D := .tup [.str "ts", .int w]
def rt (w : Int) : D := .tup [.str "row", .int w]
def mt' : D := .tup [.str "many", .int 0]
theorem mt_ne {objs : List Ob} : cmp objs .ne mt' mt' = some false := c_neSame (by decide +kernel) (by decide +kernel)
section
variable {n : Nat} {d : D} {k w : Int}
theorem l6 (h : wrongTs d = some w) : ∀ s', callF P (n + 7) (.fn 21) [.lam 6 [.val d]] s' = .ok (.v (tt w)) s' := fun s' => heard_rs (n := n + 6) (c := 7) (w := .int w) (t := "ts") (fun s => by rw [el_6]; simp [k_ts_bad (n := n + 2) h, leaveR_same]) rfl fun _ => rfl
theorem l5 (hk : 1 ≤ k ∧ k ≤ 60) (h : wrongTs d = some w) : ∀ s', callF P (n + 7) (.fn 21) [.lam 5 [.val (.int k), .val d]] s' = .ok (.v (tt w)) s' := fun s' => heard_rs (n := n + 6) (c := 7) (w := .int w) (t := "ts") (fun s => by
  have hb : btw 1 60 (.int k) = true := by simp [btw]; omega
  rw [el_5]; simp [k_spare_ts (n := n + 1) hb h, leaveR_same]) rfl fun _ => rfl
theorem l4 (hk : 1 ≤ k ∧ k ≤ 60) (h : wrongTs d = some w) : ∀ s', callF P (n + 7) (.fn 21) [.lam 4 [.val (.int k), .val d]] s' = .ok (.v (tt w)) s' := fun s' => heard_rs (n := n + 6) (c := 7) (w := .int w) (t := "ts") (fun s => by
  have hb : btw 1 60 (.int k) = true := by simp [btw]; omega
  rw [el_4]; simp [k_fits_ts hb h, leaveR_same]) rfl fun _ => rfl
theorem l3 (hk : 1 ≤ k ∧ k ≤ 60) (h : wrongRow d = .int w) : ∀ s', callF P (n + 7) (.fn 21) [.lam 3 [.val (.int k), .val d]] s' = .ok (.v (rt w)) s' := fun s' => heard_rs (n := n + 6) (c := 2) (w := .int w) (t := "row") (fun s => by
  have hb : btw 1 60 (.int k) = true := by simp [btw]; omega
  rw [el_3]; simp [k_thick_row hb h, leaveR_same]) rfl fun _ => rfl
theorem l2 (hk : 1 ≤ k ∧ k ≤ 60) (h : btw 1 30 d = false) : ∀ s', callF P (n + 7) (.fn 21) [.lam 2 [.val (.int k), .val d]] s' = .ok (.v mt') s' := fun s' => heard_rs (n := n + 6) (c := 5) (w := .int 0) (t := "many") (fun s => by
  have hb : btw 1 60 (.int k) = true := by simp [btw]; omega
  rw [el_2]; simp [k_most_many (n := n + 1) hb h, leaveR_same]) rfl fun _ => rfl
theorem l1 (hk : 1 ≤ k ∧ k ≤ 60) (h : btw 1 30 d = false) : ∀ s', callF P (n + 7) (.fn 21) [.lam 1 [.val (.int k), .val d]] s' = .ok (.v mt') s' := fun s' => heard_rs (n := n + 6) (c := 5) (w := .int 0) (t := "many") (fun s => by
  have hb : btw 1 60 (.int k) = true := by simp [btw]; omega
  rw [el_1]; simp [k_ld_many hb h, leaveR_same]) rfl fun _ => rfl
end
end Ev

set_option Elab.async false
set_option linter.all false
set_option maxRecDepth 100000
namespace Ev
open PySem
theorem eqb_kt : D.eqbL [kt, kt, kt, kt, kt] [kt, kt, kt, kt, kt] = true := by decide +kernel
theorem eqb_tt {w : Int} : D.eqbL [tt w, tt w, tt w] [tt w, tt w, tt w] = true := by simp [D.eqbL, D.eqb, tt]
theorem lo_kt {n : Nat} : D.lo n kt = true := id rfl
theorem lo_tt {n : Nat} {w : Int} : D.lo n (tt w) = true := id rfl
def rf1 : S := b_law_thick_refused.fst
def rf2 : S := b_law_thick_refused.snd.fst
def rf3 : S := b_law_thick_refused.snd.snd.fst
def rf4 : S := b_law_thick_refused.snd.snd.snd.fst
section
variable {n : Nat} {s : St} {k : Int} {row ts : List Int}
/-- the slots of `refused` -/
def eR (k : Int) (row ts : List Int) (w3 w4 w6 w7 : Sl) : Env := [.val (.int k), .val (.tup (row.map .int)), .val (.tup (ts.map .int)), w3, w4, .no, w6, w7]
theorem eR_2 {w3 w4 w6 w7 : Sl} : (eR k row ts w3 w4 w6 w7)[2]? = some (.val (.tup (ts.map .int))) := id rfl
theorem len1 {d : D} : [d].length < sizeLine := by rw [sizeLine_eq]; simp
theorem len2 {d e : D} : [d, e].length < sizeLine := by rw [sizeLine_eq]; simp
theorem len3 {d e f : D} : [d, e, f].length < sizeLine := by rw [sizeLine_eq]; simp
theorem len4 {d e f g : D} : [d, e, f, g].length < sizeLine := by rw [sizeLine_eq]; simp
theorem app1 {o : List Ob} {e : Option Nat} {a d : D} (hd : D.lo 0 d = true) : mt ⟨o ++ [.lst [a]], e⟩ .append o.length [d] = .ok (.v .non) ⟨o ++ [.lst [a, d]], e⟩ := app_last len1 hd
theorem app2 {o : List Ob} {e : Option Nat} {a b d : D} (hd : D.lo 0 d = true) : mt ⟨o ++ [.lst [a, b]], e⟩ .append o.length [d] = .ok (.v .non) ⟨o ++ [.lst [a, b, d]], e⟩ := app_last len2 hd
theorem app3 {o : List Ob} {e : Option Nat} {a b c d : D} (hd : D.lo 0 d = true) : mt ⟨o ++ [.lst [a, b, c]], e⟩ .append o.length [d] = .ok (.v .non) ⟨o ++ [.lst [a, b, c, d]], e⟩ := app_last len3 hd
theorem app4 {o : List Ob} {e : Option Nat} {a b c x d : D} (hd : D.lo 0 d = true) : mt ⟨o ++ [.lst [a, b, c, x]], e⟩ .append o.length [d] = .ok (.v .non) ⟨o ++ [.lst [a, b, c, x, d]], e⟩ := app_last len4 hd
theorem c_neNil {objs : List Ob} : cmp objs .ne (.lst []) (.lst []) = some false := by
  rw [c_neSame (by decide +kernel) (by decide +kernel)]
theorem part1 {w4 : Sl} {o : List Ob} : ∃ w3 w4 more, exS (callF P (n + 7)) rf1 (eR k row ts .no .no .no .no) ⟨o, none⟩ = .nx (eR k row ts w3 w4 .no .no) ⟨o ++ more, none⟩ := by
  unfold rf1
  simp only [b_law_thick_refused, S.fst, ex_fr, evs_cons, ev_call, eva_nil, bind_ok', k_no_k, X_n, evs_nil, to_ok', items_lst, optO_some]
  refine for_end (G := fun r => ∃ w3 w4 more, r = .nx (eR k row ts w3 w4 .no .no) ⟨o ++ more, none⟩) (fun i env t => ∃ w3 w4 o2, (∃ more, o2 = o ++ more) ∧ t = ⟨o2, none⟩ ∧ env = eR k row ts w3 w4 .no .no) ⟨.no, .no, o, ⟨[], by simp⟩, rfl, rfl⟩ ?_ ?_ ?_
  · rintro i env t ⟨w3, w4, o2, _, rfl, _⟩; rfl
  · rintro i d env t hd ⟨w3, w4, o2, ⟨more, ho⟩, rfl, rfl⟩
    have hb := noK_bad d (List.mem_of_getElem? hd)
    clear hd
    have lc : ev (callF P (n + 7)) (.lc [5] (.nm 5) .e (.cons (.loc 4) .nil) (.cons (.cmp .ne (.loc 5) (.tup (.cons (.cst (.str "k")) (.cons (.cst (.int 0)) .nil)))) .nil) (.loc 5)) [.val (.int k), .val (.tup (row.map .int)), .val (.tup (ts.map .int)), .val d, .val (.ref o2.length), .no, .no, .no] ⟨o2 ++ [.lst [kt, kt, kt, kt, kt]], none⟩ = .ok (.n []) ⟨o2 ++ [.lst [kt, kt, kt, kt, kt]], none⟩ := by
      refine lc_no (by rfl) snoc_at eqb_kt fun d hd s' => ?_
      have e : d = .tup [.str "k", .int 0] := by simpa [kt] using hd
      subst e
      have q := kt_ne (objs := s'.objs)
      unfold kt at q
      simp [noL, Ev.wipe, q]
    generalize hF : frB _ _ _ _ _ = F
    simp [eR, l11 hb, l10 hb, l9 hb, l8 hb, l7 hb, capt, Sl.keep, app1, app2, app3, app4, lo_kt, lc, c_neNil, -ev_lc, -List.append_assoc] at hF
    subst hF
    exact ⟨_, _, o2 ++ [.lst [kt, kt, kt, kt, kt]], ⟨more ++ [.lst [kt, kt, kt, kt, kt]], by rw [ho, List.append_assoc]⟩, rfl, rfl⟩
  · rintro env t ⟨w3, w4, o2, ⟨more, rfl⟩, rfl, rfl⟩
    exact ⟨_, _, _, rfl⟩
theorem part2 (hk : 1 ≤ k ∧ k ≤ 60) (ht : tsOk ts) {w3 w4 : Sl} {o : List Ob} : ∃ w5 w6 w7 more, exS (callF P (n + 7)) rf2 (eR k row ts w3 w4 .no .no) ⟨o, none⟩ = .nx (eR k row ts w3 w5 w6 w7) ⟨o ++ more, none⟩ := by
  obtain ⟨L, e1, hL⟩ := k_no_ts (n := n + 6) (s := ⟨o, none⟩) ht
  have e1' : callF P (n + 7) (.fn 23) [.val (.tup (ts.map .int))] ⟨o, none⟩ = .ok (.n L) ⟨o, none⟩ := e1
  unfold rf2
  simp only [b_law_thick_refused, S.fst, S.snd, ex_fr, evs_cons, ev_call, eva_nil, bind_ok', eva_loc, evs_nil, to_ok', items_lst, optO_some, eR_2, argV_val, e1', X_n]
  refine for_end (G := fun r => ∃ w4 w6 w7 more, r = .nx (eR k row ts w3 w4 w6 w7) ⟨o ++ more, none⟩) (fun i env t => ∃ w4 w6 w7 o2, (∃ more, o2 = o ++ more) ∧ t = ⟨o2, none⟩ ∧ env = eR k row ts w3 w4 w6 w7) ⟨w4, .no, .no, o, ⟨[], by simp⟩, rfl, rfl⟩ ?_ ?_ ?_
  · rintro i env t ⟨w4, w6, w7, o2, _, rfl, _⟩; rfl
  · rintro i d env t hd ⟨w4, w6, w7, o2, ⟨more, ho⟩, rfl, rfl⟩
    obtain ⟨th, w, rfl, h1, h2, h3, h4⟩ := hL d (List.mem_of_getElem? hd)
    clear hd
    have rp : rpOk (.tup [.str "ts", .int w]) = true := rp_tag (by simp [tags]) (by omega)
    have lc : ev (callF P (n + 7)) (.lc [5] (.nm 5) .e (.cons (.loc 4) .nil) (.cons (.cmp .ne (.bc .repr (.cons (.loc 5) .nil)) (.bc .repr (.cons (.tup (.cons (.cst (.str "ts")) (.cons (.loc 7) .nil))) .nil))) .nil) (.loc 5)) [.val (.int k), .val (.tup (row.map .int)), .val (.tup (ts.map .int)), w3, .val (.ref o2.length), .no, .val th, .val (.int w)] ⟨o2 ++ [.lst [tt w, tt w, tt w]], none⟩ = .ok (.n []) ⟨o2 ++ [.lst [tt w, tt w, tt w]], none⟩ := by
      refine lc_no (by rfl) snoc_at eqb_tt fun d hd s' => ?_
      have e : d = .tup [.str "ts", .int w] := by simpa [tt] using hd
      subst e
      simp [noL, Ev.wipe, bi_repr rp, c_neS]
    generalize hF : frB _ _ _ _ _ = F
    simp [eR, l6 h1, l5 hk h1, l4 hk h1, capt, Sl.keep, app1, app2, lo_tt, lc, c_neNil, -ev_lc, -List.append_assoc] at hF
    subst hF
    exact ⟨_, _, _, o2 ++ [.lst [tt w, tt w, tt w]], ⟨more ++ [.lst [tt w, tt w, tt w]], by rw [ho, List.append_assoc]⟩, rfl, rfl⟩
  · rintro env t ⟨w4, w6, w7, o2, ⟨more, rfl⟩, rfl, rfl⟩
    exact ⟨_, _, _, _, rfl⟩
def noRow (row : List Int) : List D := [.tup [.non, .int (-1)], .tup [.tup (List.replicate 25 (.int 1)), .int (-1)], .tup [.tup ((row.map .int).take 23 ++ [.int 0]), .int (min 23 (row.length : Int))], .tup [.tup [.int 100, .int 0], .int 0], .tup [.tup [.int 1, .bl true], .int 1]]
theorem noRow_bad (hr : rowOk row) : ∀ x ∈ noRow row, ∃ th w, x = .tup [th, .int w] ∧ wrongRow th = .int w ∧ -1 ≤ w ∧ w ≤ 23 := by
  intro x hx
  simp only [noRow, List.mem_cons, List.not_mem_nil, or_false] at hx
  rcases hx with rfl | rfl | rfl | rfl | rfl
  · exact ⟨_, _, rfl, rfl, by decide, by decide⟩
  · exact ⟨_, _, rfl, by simp [wrongRow], by decide, by decide⟩
  · have hl := hr.1
    refine ⟨_, _, rfl, ?_, by omega, by omega⟩
    have lt : ((row.map D.int).take 23).length = min 23 row.length := by simp
    have fb : firstBad 1 99 ((row.map D.int).take 23 ++ [D.int 0]) = some (min 23 row.length) := by
      refine first_at (d := .int 0) ?_ rfl fun j lj x hx => ?_
      · rw [List.getElem?_append_right (by omega), lt]
        simp
      · rw [List.getElem?_append_left (by omega), List.getElem?_take_of_lt (by omega)] at hx
        obtain ⟨y, hy, rfl⟩ := List.mem_map.mp (List.mem_of_getElem? hx)
        simp [btw, hr.2 y hy]
    have ln : ((row.map D.int).take 23 ++ [D.int 0]).length ≤ 24 := by rw [List.length_append, lt]; simp; omega
    simp only [wrongRow, fb]
    rw [if_pos ln]
    congr 1
    omega
  · exact ⟨_, _, rfl, by simp [wrongRow, firstBad, List.findIdx?, List.findIdx?.go, btw], by decide, by decide⟩
  · exact ⟨_, _, rfl, by simp [wrongRow, firstBad, List.findIdx?, List.findIdx?.go, btw], by decide, by decide⟩
theorem part3 (hk : 1 ≤ k ∧ k ≤ 60) (hr : rowOk row) {w3 w4 w6 w7 : Sl} {o : List Ob} : ∃ w8 w9, exS (callF P (n + 7)) rf3 (eR k row ts w3 w4 w6 w7) ⟨o, none⟩ = .nx (eR k row ts w3 w4 w8 w9) ⟨o, none⟩ := by
  have r25 : ∀ o : List Ob, binop o .mul (.tup [.int 1]) (.int 25) = some (.v (.tup (List.replicate 25 (.int 1)))) := fun o => by
    rw [b_mulT (repK_one (by decide)), show (25 : Int) = ((25 : Nat) : Int) from rfl, repL_one]
  have hc : cut (row.map D.int) none (some 23) = (row.map D.int).take 23 := cut_to (k := 23)
  have ha : ∀ o : List Ob, binop o .add (.tup ((row.map D.int).take 23)) (.tup [.int 0]) = some (.v (.tup ((row.map D.int).take 23 ++ [.int 0]))) := fun o => b_addT (by simp [sizeLine_eq]; omega)
  have hm : ∀ (o : List Ob) (a b : Int), bi o .min2 [.int a, .int b] = some (.v (.int (min a b))) := fun _ _ _ => rfl
  have it : evs (callF P (n + 7)) (.cons (match rf3 with | .fr _ _ (.cons e _) _ => e | _ => .no) .nil) (eR k row ts w3 w4 w6 w7) ⟨o, none⟩ = .ok [.lst (noRow row)] ⟨o, none⟩ := by
    simp [rf3, b_law_thick_refused, S.fst, S.snd, eR, r25, hc, ha, hm, noRow]
  have sp : rf3 = .fr (.tup (.nm 6) (.tup (.nm 7) .nil)) .e (.cons (match rf3 with | .fr _ _ (.cons e _) _ => e | _ => .no) .nil) (match rf3 with | .fr _ _ _ b => b | _ => .skip) := rfl
  rw [sp, ex_fr, it]
  simp only [to_ok', items_lst, optO_some]
  refine for_end (G := fun r => ∃ w8 w9, r = .nx (eR k row ts w3 w4 w8 w9) ⟨o, none⟩) (fun i env t => ∃ w8 w9, t = ⟨o, none⟩ ∧ env = eR k row ts w3 w4 w8 w9) ⟨w6, w7, rfl, rfl⟩ ?_ ?_ ?_
  · rintro i env t ⟨w8, w9, rfl, _⟩; rfl
  · rintro i d env t hd ⟨w8, w9, rfl, rfl⟩
    obtain ⟨th, w, rfl, h1, h2, h3⟩ := noRow_bad hr d (List.mem_of_getElem? hd)
    clear hd it sp
    have rp : rpOk (.tup [.str "row", .int w]) = true := rp_tag (by simp [tags]) (by omega)
    have rp' : rpOk (rt w) = true := rp
    have e : (pd (rt w)).shown = (pd (.tup [.str "row", .int w])).shown := rfl
    generalize hF : frB _ _ _ _ _ = F
    simp [rf3, b_law_thick_refused, S.fst, S.snd, eR, l3 hk h1, capt, Sl.keep, bi_repr rp, bi_repr rp', e, c_neS] at hF
    subst hF
    exact ⟨_, _, rfl, rfl⟩
  · rintro env t ⟨w8, w9, rfl, rfl⟩
    exact ⟨_, _, rfl⟩
def noMany : List D := [.int 0, .int 31, .int (-1), .bl true, .non, .str "1", .int 100000000000000000000]
theorem noMany_bad : ∀ d ∈ noMany, btw 1 30 d = false := by simp [noMany, btw]
theorem part4 (hk : 1 ≤ k ∧ k ≤ 60) {w3 w4 w6 w7 : Sl} {o : List Ob} : ∃ w5, exS (callF P (n + 7)) rf4 (eR k row ts w3 w4 w6 w7) ⟨o, none⟩ = .nx (eR k row ts w5 w4 w6 w7) ⟨o, none⟩ := by
  have it : evs (callF P (n + 7)) (.cons (match rf4 with | .fr _ _ (.cons e _) _ => e | _ => .no) .nil) (eR k row ts w3 w4 w6 w7) ⟨o, none⟩ = .ok [.lst noMany] ⟨o, none⟩ := by
    simp [rf4, b_law_thick_refused, S.fst, S.snd, pow20, noMany]
  have sp : rf4 = .fr (.nm 3) .e (.cons (match rf4 with | .fr _ _ (.cons e _) _ => e | _ => .no) .nil) (match rf4 with | .fr _ _ _ b => b | _ => .skip) := rfl
  rw [sp, ex_fr, it]
  simp only [to_ok', items_lst, optO_some]
  refine for_end (G := fun r => ∃ w5, r = .nx (eR k row ts w5 w4 w6 w7) ⟨o, none⟩) (fun i env t => ∃ w5, t = ⟨o, none⟩ ∧ env = eR k row ts w5 w4 w6 w7) ⟨w3, rfl, rfl⟩ ?_ ?_ ?_
  · rintro i env t ⟨w5, rfl, _⟩; rfl
  · rintro i d env t hd ⟨w5, rfl, rfl⟩
    have hb := noMany_bad d (List.mem_of_getElem? hd)
    clear hd it sp
    have q := mt_ne (objs := o)
    have e : mt' = .tup [.str "many", .int 0] := rfl
    generalize hF : frB _ _ _ _ _ = F
    simp [rf4, b_law_thick_refused, S.fst, S.snd, eR, l2 hk hb, l1 hk hb, capt, Sl.keep, ← e, q] at hF
    subst hF
    exact ⟨_, rfl, rfl⟩
  · rintro env t ⟨w5, rfl, rfl⟩
    exact ⟨_, rfl⟩
theorem k_refused (hk : 1 ≤ k ∧ k ≤ 60) (hr : rowOk row) (ht : tsOk ts) : callF P (n + 8) (.fn 28) [.val (.int k), .val (.tup (row.map .int)), .val (.tup (ts.map .int))] s = .ok (.v (.bl true)) s := by
  obtain ⟨w3, w4, m1, e1⟩ := part1 (n := n) (k := k) (row := row) (ts := ts) (o := s.objs) (w4 := .no)
  obtain ⟨w5, w6, w7, m2, e2⟩ := part2 (n := n) (row := row) hk ht (w3 := w3) (w4 := w4) (o := s.objs ++ m1)
  obtain ⟨w8, w9, e3⟩ := part3 (n := n) (ts := ts) hk hr (w3 := w3) (w4 := w5) (w6 := w6) (w7 := w7) (o := s.objs ++ m1 ++ m2)
  obtain ⟨w10, e4⟩ := part4 (n := n) (row := row) (ts := ts) hk (w3 := w3) (w4 := w5) (w6 := w8) (w7 := w9) (o := s.objs ++ m1 ++ m2)
  have sp : b_law_thick_refused = .seq rf1 (.seq rf2 (.seq rf3 (.seq rf4 (.ret (.cst (.bl true)))))) := rfl
  rw [e_law_thick_refused, sp]
  show (if 3 = 3 then retF false s (exS (callF P (n + 7)) (.seq rf1 (.seq rf2 (.seq rf3 (.seq rf4 (.ret (.cst (.bl true))))))) (eR k row ts .no .no .no .no) ⟨s.objs, none⟩) else .bad) = _
  rw [if_pos rfl]
  simp only [ex_seq, e1, e2, e3, e4, seqO_nx, ex_ret, ev_cst, to_ok', retF_rt]
  rw [List.append_assoc]
  exact leave_cut (by rfl) rfl
end
end Ev

set_option Elab.async false
set_option linter.all false
set_option maxRecDepth 100000
namespace Ev
open PySem
/-- a comprehension whose turns each give a value -/
theorem lcL_wp {n : Nat} {st : St → Bool} {f : D → St → R (Option D)} (I : Nat → St → Prop) : ∀ (ds : List D) (k : Nat) (s : St), I k s → (∀ i s, I i s → st s = true) →
    (∀ i d s, ds[i]? = some d → I (k + i) s → ∃ e s' acc, f d s = .ok (some e) s' ∧ s'.objs[n]? = some (.lst acc) ∧ acc.length < sizeLine ∧ I (k + i + 1) (setO s' n (.lst (acc ++ [e])) (escW n e s'.esc))) →
    ∃ s', lcL n st f ds s = .ok () s' ∧ I (k + ds.length) s'
  | [], k, s, h0, hS, _ => ⟨s, by simp [lcL, hS k s h0], h0⟩
  | d :: ds, k, s, h0, hS, step => by
    obtain ⟨e, s1, acc, h1, h2, h3, h4⟩ := step 0 d s rfl h0
    obtain ⟨s2, h5, h6⟩ := lcL_wp I ds (k + 1) _ h4 hS fun i x t hx hi => by
      have q := step (i + 1) x t (by simpa using hx) (by rwa [show k + (i + 1) = k + 1 + i by omega])
      rwa [show k + (i + 1) = k + 1 + i by omega] at q
    refine ⟨s2, ?_, by rwa [show k + (d :: ds).length = k + 1 + ds.length by simp only [List.length_cons]; omega]⟩
    simp only [lcL, hS k s h0, if_true, h1, h2, h3]
    exact h5
def g1 : S := b_law.fst
def g2 : S := b_law.snd.fst
def g3 : S := b_law.snd.snd.fst
def g4 : S := b_law.snd.snd.snd.fst
def g5 : S := b_law.snd.snd.snd.snd.fst
def g6 : S := b_law.snd.snd.snd.snd.snd.fst
def g7 : S := b_law.snd.snd.snd.snd.snd.snd.fst
def g8 : S := b_law.snd.snd.snd.snd.snd.snd.snd.fst
def g9 : S := b_law.snd.snd.snd.snd.snd.snd.snd.snd
def gs (s : S) : S := s
section
variable {n : Nat} {ns : List Int}
def eL (ns : List Int) (w1 w2 w3 w4 w5 w7 : Sl) : Env := [.val (.scr (ns.map .int)), w1, w2, w3, w4, w5, .no, w7]
theorem law1 : exS (callF P (n + 8)) g1 (eL ns .no .no .no .no .no .no) ⟨[], none⟩ = .nx (eL ns .no .no .no .no .no .no) ⟨[], none⟩ := by
  have t1 : callF P (n + 8) (.fn 9) [.val (.int 4), .val (.tup [.int 1, .int 2, .int 2])] ⟨[], none⟩ = .ok (.v (.int 0)) ⟨[], none⟩ := k_thick_ok (n := n + 3) (is := [1, 2, 2]) (by decide) (by decide) ⟨by decide, by decide⟩
  have t2 : callF P (n + 8) (.fn 9) [.val (.int 6), .val (.tup [.int 6, .int 2])] ⟨[], none⟩ = .ok (.v (.int 2)) ⟨[], none⟩ := k_thick_ok (n := n + 3) (is := [6, 2]) (by decide) (by decide) ⟨by decide, by decide⟩
  have t3 : callF P (n + 8) (.fn 9) [.val (.int 60), .val (.tup [.int 1])] ⟨[], none⟩ = .ok (.v (.int (-58))) ⟨[], none⟩ := k_thick_ok (n := n + 3) (is := [1]) (by decide) (by decide) ⟨by decide, by decide⟩
  have r24 : ∀ o : List Ob, binop o .mul (.tup [.int 99]) (.int 24) = some (.v (.tup (List.replicate 24 (.int 99)))) := fun o => by
    rw [b_mulT (repK_one (by decide)), show (24 : Int) = ((24 : Nat) : Int) from rfl, repL_one]
  have t4 : callF P (n + 8) (.fn 9) [.val (.int 1), .val (.tup (List.replicate 24 (.int 99)))] ⟨[], none⟩ = .ok (.v (.int 197)) ⟨[], none⟩ := k_thick_ok (n := n + 3) (is := List.replicate 24 99) (by decide) (by decide) ⟨by decide, by decide⟩
  simp [g1, b_law, S.fst, t1, t2, t3, t4, r24, -List.reduceReplicate]
theorem law2 : ∃ rest a b, exS (callF P (n + 8)) g2 (eL ns .no .no .no .no .no .no) ⟨[], none⟩ = .nx (eL ns (.val (.ref 1)) .no .no .no .no .no) ⟨pO rest a b [], none⟩ ∧ pOk a b := by
  obtain ⟨rest, a, b, h1, h2⟩ := pool_ok (n := n + 7) (ns := ns)
  refine ⟨rest, a, b, ?_, h2⟩
  have h1' : callF P (n + 8) (.fn 16) [.val (.scr (ns.map .int))] ⟨[], none⟩ = .ok (.n [.int a, .int b, .ref 0]) ⟨[.lst (rest.map .int)], none⟩ := h1
  simp [g2, b_law, S.fst, S.snd, eL, h1', pO]
theorem draw_n {rest : List Int} {a b : Int} {tl : List Ob} {e : Option Nat} {many : Int} (hp : pOk a b) (hm : 0 < many ∧ many < 1000000) : ∃ r rest' a' b', callF P (n + 8) (.fn 17) [.val (.ref 1), .val (.int many)] ⟨pO rest a b tl, e⟩ = .ok (.v (.int r)) ⟨pO rest' a' b' tl, e⟩ ∧ 0 ≤ r ∧ r < many ∧ pOk a' b' := draw_ok (n := n + 7) hp hm
theorem law3 {rest : List Int} {a b : Int} (hp : pOk a b) : ∃ k rest' a' b', exS (callF P (n + 8)) g3 (eL ns (.val (.ref 1)) .no .no .no .no .no) ⟨pO rest a b [], none⟩ = .nx (eL ns (.val (.ref 1)) (.val (.int k)) .no .no .no .no) ⟨pO rest' a' b' [], none⟩ ∧ 1 ≤ k ∧ k ≤ 60 ∧ pOk a' b' := by
  obtain ⟨x, r1, a1, b1, q1, x1, x2, hp1⟩ := draw_n (n := n) (rest := rest) (tl := []) (e := none) (many := 6) hp (by decide)
  obtain ⟨y, r2, a2, b2, q2, y1, y2, hp2⟩ := draw_n (n := n) (rest := r1) (tl := []) (e := none) (many := 60) hp1 (by decide)
  obtain ⟨z, r3, a3, b3, q3, z1, z2, hp3⟩ := draw_n (n := n) (rest := r1) (tl := []) (e := none) (many := 12) hp1 (by decide)
  by_cases c : x = 0
  · refine ⟨1 + y, r2, a2, b2, ?_, by omega, by omega, hp2⟩
    simp [g3, b_law, S.fst, S.snd, eL, q1, c, q2]
  · refine ⟨1 + z, r3, a3, b3, ?_, by omega, by omega, hp3⟩
    simp [g3, b_law, S.fst, S.snd, eL, q1, c, q3]
theorem law4 {rest : List Int} {a b k : Int} (hp : pOk a b) (hk : 1 ≤ k ∧ k ≤ 60) : ∃ row rest' a' b', exS (callF P (n + 8)) g4 (eL ns (.val (.ref 1)) (.val (.int k)) .no .no .no .no) ⟨pO rest a b [], none⟩ = .nx (eL ns (.val (.ref 1)) (.val (.int k)) (.val (.tup (row.map .int))) .no .no .no) ⟨pO rest' a' b' [], none⟩ ∧ rowOk row ∧ pOk a' b' := by
  obtain ⟨row, r1, a1, b1, q1, l1, l2, hp1⟩ := row_ok (n := n + 6) (rest := rest) (tl := []) (e := none) (gaps := 5) (top := k + 2) hp (by decide) (by omega)
  have q1' : callF P (n + 8) (.fn 20) [.val (.ref 1), .val (.int 5), .val (.int (k + 2))] ⟨pO rest a b [], none⟩ = .ok (.v (.tup (row.map .int))) ⟨pO r1 a1 b1 [], none⟩ := q1
  refine ⟨row, r1, a1, b1, ?_, ⟨by omega, l2⟩, hp1⟩
  simp [g4, b_law, S.fst, S.snd, eL, q1']
theorem law5 {rest : List Int} {a b k : Int} {w : Sl} (hp : pOk a b) : ∃ m rest' a' b', exS (callF P (n + 8)) g5 (eL ns (.val (.ref 1)) (.val (.int k)) w .no .no .no) ⟨pO rest a b [], none⟩ = .nx (eL ns (.val (.ref 1)) (.val (.int k)) w (.val (.int m)) .no .no) ⟨pO rest' a' b' [], none⟩ ∧ 1 ≤ m ∧ m ≤ 8 ∧ pOk a' b' := by
  obtain ⟨x, r1, a1, b1, q1, x1, x2, hp1⟩ := draw_n (n := n) (rest := rest) (tl := []) (e := none) (many := 6) hp (by decide)
  obtain ⟨y, r2, a2, b2, q2, y1, y2, hp2⟩ := draw_n (n := n) (rest := r1) (tl := []) (e := none) (many := 5) hp1 (by decide)
  by_cases c : x = 0
  · refine ⟨8, r1, a1, b1, ?_, by omega, by omega, hp1⟩
    simp [g5, b_law, S.fst, S.snd, eL, q1, c]
  · refine ⟨1 + y, r2, a2, b2, ?_, by omega, by omega, hp2⟩
    simp [g5, b_law, S.fst, S.snd, eL, q1, c, q2]
def lcT : T := match g6 with
  | .asg _ (.bc _ (.cons t _)) => t
  | _ => .no
def elT : T := match lcT with
  | .lc _ _ _ _ _ t => t
  | _ => .no
theorem el_draw {rest : List Int} {a b k : Int} {w w4 w5 w6 w7 : Sl} {tl : List Ob} (hp : pOk a b) (hk : 1 ≤ k ∧ k ≤ 60) : ∃ r rest' a' b', ev (callF P (n + 8)) elT [.val (.scr (ns.map .int)), .val (.ref 1), .val (.int k), w, w4, w5, w6, w7] ⟨pO rest a b tl, none⟩ = .ok (.v (.int r)) ⟨pO rest' a' b' tl, none⟩ ∧ 1 ≤ r ∧ r ≤ 60 ∧ pOk a' b' := by
  obtain ⟨x, r1, a1, b1, q1, x1, x2, hp1⟩ := draw_n (n := n) (rest := rest) (tl := tl) (e := none) (many := 5) hp (by decide)
  obtain ⟨y, r2, a2, b2, q2, y1, y2, hp2⟩ := draw_n (n := n) (rest := r1) (tl := tl) (e := none) (many := 60) hp1 (by decide)
  obtain ⟨z, r3, a3, b3, q3, z1, z2, hp3⟩ := draw_n (n := n) (rest := r1) (tl := tl) (e := none) (many := max 1 (k / 3)) hp1 (by omega)
  have hm : ∀ (o : List Ob) (a b : Int), bi o .max2 [.int a, .int b] = some (.v (.int (max a b))) := fun _ _ _ => rfl
  by_cases c : x = 0
  · refine ⟨1 + y, r2, a2, b2, ?_, by omega, by omega, hp2⟩
    simp [elT, lcT, g6, b_law, S.fst, S.snd, q1, c, q2]
  · refine ⟨1 + z, r3, a3, b3, ?_, by omega, by omega, hp3⟩
    simp [elT, lcT, g6, b_law, S.fst, S.snd, q1, c, hm, b_div (m := k) (n := 3) (by decide), q3]
theorem law6 {rest : List Int} {a b k m : Int} {row : List Int} (hp : pOk a b) (hk : 1 ≤ k ∧ k ≤ 60) (hm : 1 ≤ m ∧ m ≤ 8) : ∃ ts rest' a' b', exS (callF P (n + 8)) g6 (eL ns (.val (.ref 1)) (.val (.int k)) (.val (.tup (row.map .int))) (.val (.int m)) .no .no) ⟨pO rest a b [], none⟩ = .nx (eL ns (.val (.ref 1)) (.val (.int k)) (.val (.tup (row.map .int))) (.val (.int m)) (.val (.tup (ts.map .int))) .no) ⟨pO rest' a' b' [], none⟩ ∧ tsOk ts ∧ pOk a' b' := by
  have hl := lcL_wp (n := 2) (st := fun s' => still (pO rest a b []) s'.objs [.int m]) (f := lcB (evc (callF P (n + 8)) .nil) (ev (callF P (n + 8)) elT) (.nm 6) (noL (Ev.wipe (eL ns (.val (.ref 1)) (.val (.int k)) (.val (.tup (row.map .int))) (.val (.int m)) .no .no) [6])))
    (fun i t => ∃ (is r : List Int) (a b : Int), t = ⟨pO r a b [.lst (is.map .int)], none⟩ ∧ is.length = i ∧ (∀ i ∈ is, 1 ≤ i ∧ i ≤ 60) ∧ pOk a b) (rngL 0 m) 0 ⟨pO rest a b [] ++ [.lst []], none⟩ ⟨[], rest, a, b, rfl, rfl, by simp, hp⟩ (fun _ _ _ => rfl) ?_
  · obtain ⟨s', e1, is, r, a', b', rfl, l1, l2, hp'⟩ := hl
    have e2 : ev (callF P (n + 8)) (.lc [6] (.nm 6) .rng1 (.cons (.loc 4) .nil) .nil elT) (eL ns (.val (.ref 1)) (.val (.int k)) (.val (.tup (row.map .int))) (.val (.int m)) .no .no) ⟨pO rest a b [], none⟩ = .ok (.n (is.map .int)) ⟨pO r a' b' [], none⟩ := by
      rw [ev_lc]
      have e4 : (eL ns (.val (.ref 1)) (.val (.int k)) (.val (.tup (row.map .int))) (.val (.int m)) .no .no)[4]? = some (.val (.int m)) := rfl
      simp only [evs_cons, ev_loc, e4, getV_val, bind_ok', evs_nil, X_v, items_rng1 (b := m) (by omega), optR_some]
      have l2 : (pO rest a b []).length = 2 := rfl
      rw [l2, e1]
      simp only [bind_ok']
      unfold lcE
      have e5 : (pO r a' b' [.lst (is.map D.int)])[(pO rest a b []).length]? = some (.lst (is.map D.int)) := rfl
      simp only [e5]
      have e6 : ((pO r a' b' [.lst (is.map D.int)]).length == (pO rest a b []).length + 1 && escOk (pO rest a b []).length none && D.loL (pO rest a b []).length (is.map D.int)) = true := by
        rw [loL_ints]
        rfl
      rw [if_pos e6]
      rfl
    have lm : is.length = m.toNat := by
      rw [rng_len] at l1
      omega
    refine ⟨is, r, a', b', ?_, ⟨by omega, by omega, l2⟩, hp'⟩
    have sp : g6 = .asg (.nm 5) (.bc .tuple (.cons (.lc [6] (.nm 6) .rng1 (.cons (.loc 4) .nil) .nil elT) .nil)) := rfl
    have tu : ∀ o : List Ob, bi o .tuple [.lst (is.map .int)] = some (.v (.tup (is.map .int))) := fun o => rfl
    rw [sp]
    simp only [ex_asg, ev_bc, evs_cons, e2, bind_ok', evs_nil, X_n, tu, ofO_some, to_ok', X_v]
    rfl
  · rintro i d s hd ⟨is, r, a, b, rfl, l1, l2, hp⟩
    have hh := rng_at hd
    have hl8 : i < 8 := by
      have := hh.1
      omega
    clear hh
    obtain ⟨x, r', a', b', q1, x1, x2, hp'⟩ := el_draw (n := n) (ns := ns) (rest := r) (w := .val (.tup (row.map .int))) (w4 := .val (.int m)) (w5 := .no) (w6 := .val d) (w7 := .no) (tl := [.lst (is.map .int)]) hp hk
    have ea : asg (.nm 6) d (noL (Ev.wipe (eL ns (.val (.ref 1)) (.val (.int k)) (.val (.tup (row.map .int))) (.val (.int m)) .no .no) [6])) = some [.val (.scr (ns.map .int)), .val (.ref 1), .val (.int k), .val (.tup (row.map .int)), .val (.int m), .no, .val d, .no] := rfl
    refine ⟨.int x, ⟨pO r' a' b' [.lst (is.map .int)], none⟩, is.map .int, ?_, rfl, by rw [List.length_map, sizeLine_eq]; omega, is ++ [x], r', a', b', ?_, by simp [l1], fun j hj => ?_, hp'⟩
    · simp only [lcB_def, ea, optR_some, evc_nil, bind_ok', if_true, q1, X_v]
    · rw [List.map_append]
      rfl
    · rcases List.mem_append.mp hj with z | z
      · exact l2 j z
      · rw [List.mem_singleton.mp z]
        exact ⟨x1, x2⟩
theorem take_ok {row : List Int} (h : rowOk row) : rowOk (row.take 1) := ⟨by have := h.1; simp; omega, fun i m => h.2 i (List.mem_of_mem_take m)⟩
theorem law7 {o : List Ob} {k : Int} {row ts : List Int} {w1 w4 : Sl} (hk : 1 ≤ k ∧ k ≤ 60) (hr : rowOk row) (ht : tsOk ts) : exS (callF P (n + 8)) g7 (eL ns w1 (.val (.int k)) (.val (.tup (row.map .int))) w4 (.val (.tup (ts.map .int))) .no) ⟨o, none⟩ = .nx (eL ns w1 (.val (.int k)) (.val (.tup (row.map .int))) w4 (.val (.tup (ts.map .int))) .no) ⟨o, none⟩ := by
  have c1 : cut (row.map D.int) none (some 1) = (row.take 1).map D.int := by
    have := cut_to (xs := row.map D.int) (k := 1)
    rw [← List.map_take] at this
    exact this
  simp [g7, b_law, S.fst, S.snd, eL, c1, k_row_right (n := n) hk hr, k_row_right (n := n) hk (take_ok hr), k_ts_right (n := n + 2) hk ht, -List.map_take]
theorem law8 {rest : List Int} {a b k : Int} {w3 w4 w5 : Sl} (hp : pOk a b) (hk : 1 ≤ k ∧ k ≤ 60) : ∃ w7 rest' a' b', exS (callF P (n + 8)) g8 (eL ns (.val (.ref 1)) (.val (.int k)) w3 w4 w5 .no) ⟨pO rest a b [], none⟩ = .nx (eL ns (.val (.ref 1)) (.val (.int k)) w3 w4 w5 w7) ⟨pO rest' a' b' [], none⟩ := by
  obtain ⟨x, r1, a1, b1, q1, x1, x2, hp1⟩ := draw_n (n := n) (rest := rest) (tl := []) (e := none) (many := 30) hp (by decide)
  simp [g8, b_law, S.fst, S.snd, eL, q1]
  refine for_end (G := fun r => ∃ w7 rest' a' b', r = .nx [.val (.scr (ns.map .int)), .val (.ref 1), .val (.int k), w3, w4, w5, .no, w7] ⟨pO rest' a' b' [], none⟩) (fun i env t => ∃ w7, t = ⟨pO r1 a1 b1 [], none⟩ ∧ env = [.val (.scr (ns.map .int)), .val (.ref 1), .val (.int k), w3, w4, w5, .no, w7]) ⟨_, rfl, rfl⟩ ?_ ?_ ?_
  · rintro i env t ⟨w7, rfl, _⟩; rfl
  · rintro i d env t hd ⟨w7, rfl, rfl⟩
    have e : ∃ m : Int, d = .int m ∧ 1 ≤ m ∧ m ≤ 30 := by
      have := List.mem_of_getElem? hd
      simp only [List.mem_cons, List.not_mem_nil, or_false] at this
      rcases this with rfl | rfl | rfl | rfl
      · exact ⟨1, rfl, by decide⟩
      · exact ⟨2, rfl, by decide⟩
      · exact ⟨30, rfl, by decide⟩
      · exact ⟨1 + x, rfl, by omega⟩
    clear hd
    obtain ⟨m, rfl, hm⟩ := e
    simp [k_most_right (n := n + 2) hk hm]
  · rintro env t ⟨w7, rfl, rfl⟩
    exact ⟨_, _, _, _, rfl⟩
theorem law_ok : ∃ st, callF P (n + 9) (.fn 29) [.val (.scr (ns.map .int))] ⟨[], none⟩ = .ok (.v (.bl true)) st := by
  have h1 := law1 (n := n) (ns := ns)
  obtain ⟨r2, a2, b2, h2, p2⟩ := law2 (n := n) (ns := ns)
  obtain ⟨k, r3, a3, b3, h3, k1, k2, p3⟩ := law3 (n := n) (ns := ns) (rest := r2) p2
  obtain ⟨row, r4, a4, b4, h4, hr, p4⟩ := law4 (n := n) (ns := ns) (rest := r3) p3 ⟨k1, k2⟩
  obtain ⟨m, r5, a5, b5, h5, m1, m2, p5⟩ := law5 (n := n) (ns := ns) (rest := r4) (k := k) (w := .val (.tup (row.map .int))) p4
  obtain ⟨ts, r6, a6, b6, h6, ht, p6⟩ := law6 (n := n) (ns := ns) (rest := r5) (row := row) p5 ⟨k1, k2⟩ ⟨m1, m2⟩
  have h7 := law7 (n := n) (ns := ns) (o := pO r6 a6 b6 []) (w1 := .val (.ref 1)) (w4 := .val (.int m)) ⟨k1, k2⟩ hr ht
  obtain ⟨w7, r8, a8, b8, h8⟩ := law8 (n := n) (ns := ns) (rest := r6) (w3 := .val (.tup (row.map .int))) (w4 := .val (.int m)) (w5 := .val (.tup (ts.map .int))) p6 ⟨k1, k2⟩
  have sp : b_law = .seq g1 (.seq g2 (.seq g3 (.seq g4 (.seq g5 (.seq g6 (.seq g7 (.seq g8 g9))))))) := rfl
  refine ⟨⟨[], none⟩, ?_⟩
  have h9 : exS (callF P (n + 8)) g9 (eL ns (.val (.ref 1)) (.val (.int k)) (.val (.tup (row.map .int))) (.val (.int m)) (.val (.tup (ts.map .int))) w7) ⟨pO r8 a8 b8 [], none⟩ = .rt (.v (.bl true)) ⟨pO r8 a8 b8 [], none⟩ := by
    simp [g9, b_law, S.snd, eL, k_refused (n := n) ⟨k1, k2⟩ hr ht]
  rw [e_law, sp]
  show (if 1 = 1 then retF false ⟨[], none⟩ (exS (callF P (n + 8)) (.seq g1 (.seq g2 (.seq g3 (.seq g4 (.seq g5 (.seq g6 (.seq g7 (.seq g8 g9)))))))) (eL ns .no .no .no .no .no .no) ⟨[], none⟩) else .bad) = _
  rw [if_pos rfl]
  simp only [ex_seq, h1, h2, h3, h4, h5, h6, h7, h8, h9, seqO_nx, retF_rt]
  exact leave_cut (s := ⟨[], none⟩) (o := []) (e := pO r8 a8 b8 []) (by rfl) rfl
end
theorem law_fin (ns : List Int) (_ : ns.length ≤ 63) (_ : ∀ z ∈ ns, Builtin.Int.intBits z ≤ 1048576) : ∃ st, callF P 60 (.fn 29) [.val (.scr (ns.map D.int))] ⟨[], none⟩ = .ok (.v (.bl true)) st := law_ok (n := 51)
end Ev

set_option maxHeartbeats 0
namespace Ev
open PySem
abbrev top (i : Nat) : Stmt := PySem.Challenge.pw_toldquiet_k07_thicknesses_that_fit.main.body.getD i (.Pass ⟨0, 0, 0, 0⟩)
def fi (x : Str) (N ps : List Str) (i : Nat) : FnI := ⟨x, N, ps, L2.defBody (top i), L2.defScope (top i), L2.defArgs (top i)⟩
def fnsI : List FnI := [fi "is_number" ["thing"] ["thing"] 20, fi "is_between" ["thing", "low", "high"] ["thing", "low", "high"] 21, fi "is_tuple_of" ["thing", "low", "high"] ["thing", "low", "high"] 22, fi "check_many" ["many", "low", "high"] ["many", "low", "high"] 23, fi "lowest" ["p", "q", "by"] ["p", "q"] 24, fi "made_k" ["thing"] ["thing"] 25, fi "wrong_row" ["thing", "at"] ["thing"] 26, fi "made_row" ["thing", "wrong"] ["thing"] 27, fi "thickness_of" ["k", "row", "double"] ["k", "row"] 32, fi "thickness" ["k", "row"] ["k", "row"] 33, fi "made_ts" ["thing", "at", "t"] ["thing"] 34, fi "spare_of" ["k", "ts"] ["k", "ts"] 35, fi "spare" ["k", "ts"] ["k", "ts"] 36, fi "fits" ["k", "ts"] ["k", "ts"] 37, fi "most" ["k", "many"] ["k", "many"] 38, fi "least_density" ["k", "many", "t"] ["k", "many"] 39, fi "_law_pool" ["script", "first", "size"] ["script"] 41, fi "_law_draw" ["pool", "many", "cell", "size", "found"] ["pool", "many"] 42, fi "_law_row_gcd" ["one", "two"] ["one", "two"] 43, fi "_law_row_low" ["p", "q", "by"] ["p", "q"] 44, fi "_law_row_drawn" ["pool", "gaps", "top", "way", "found", "turn", "row"] ["pool", "gaps", "top"] 45, fi "_law_kind_heard" ["call", "error"] ["call"] 46, fi "_law_kind_no_k" [] [] 47, fi "_law_kind_no_ts" ["ts", "found", "at", "odd"] ["ts"] 48, fi "_law_thick_counted" ["k", "row", "found", "turn"] ["k", "row"] 49, fi "_law_thick_row_right" ["k", "row", "told"] ["k", "row"] 50, fi "_law_thick_ts_right" ["k", "ts", "due", "t"] ["k", "ts"] 51, fi "_law_thick_most_right" ["k", "many", "t", "due"] ["k", "many"] 52, fi "_law_thick_refused" ["k", "row", "ts", "bad", "heard", "told", "thing", "what"] ["k", "row", "ts"] 53, fi "law" ["script", "pool", "k", "row", "many", "ts", "turn", "number"] ["script"] 54]
def lamsI : List LamD := [⟨"_law_thick_row_right.<locals>.", ["k", "row"], ["k", "row"]⟩, ⟨"_law_thick_refused.<locals>.", ["k", "bad"], ["k", "bad"]⟩, ⟨"_law_thick_refused.<locals>.", ["k", "bad"], ["k", "bad"]⟩, ⟨"_law_thick_refused.<locals>.", ["k", "thing"], ["k", "thing"]⟩, ⟨"_law_thick_refused.<locals>.", ["k", "thing"], ["k", "thing"]⟩, ⟨"_law_thick_refused.<locals>.", ["k", "thing"], ["k", "thing"]⟩, ⟨"_law_thick_refused.<locals>.", ["thing"], ["thing"]⟩, ⟨"_law_thick_refused.<locals>.", ["bad"], ["bad"]⟩, ⟨"_law_thick_refused.<locals>.", ["bad"], ["bad"]⟩, ⟨"_law_thick_refused.<locals>.", ["bad"], ["bad"]⟩, ⟨"_law_thick_refused.<locals>.", ["bad"], ["bad"]⟩, ⟨"_law_thick_refused.<locals>.", ["bad"], ["bad"]⟩]
def initT : Stmt := match top 2 with
  | .ClassDef _ _ _ (s :: _) _ _ _ _ _ _ _ => s
  | s => s
def L : LawT := ⟨P, fnsI, lamsI, ["Refused", "BadK", "BadRow", "BadRows", "NoDots", "BadMany", "BadView", "BadTs", "NoFit", "Blank", "Shared", "Thin", "BadWeights", "NoRoom"], [("MOST_K", 60), ("MOST_GAPS", 24), ("MOST_GAP", 99), ("MOST_TS", 8), ("MOST_T", 60), ("MOST_MANY", 30)], ["ValueError", "bool", "enumerate", "int", "isinstance", "len", "list", "max", "min", "range", "repr", "sum", "tuple"], true, ["_law_thick_row_right", "_law_thick_refused"], L2.defArgs initT, L2.defBody initT, L2.defScope initT⟩

theorem good : L.good = true := by decide +kernel
abbrev depth : Nat := 60
theorem law_true (ns : List Int) (h1 : ns.length ≤ 63) (h2 : ∀ z ∈ ns, Builtin.Int.intBits z ≤ 1048576) : ∃ st, callF L.P depth (.fn lawIx) [.val (.scr (ns.map D.int))] ⟨[], none⟩ = .ok (.v (.bl true)) st := law_fin ns h1 h2
abbrev Rw : PySem.W.OpenRow := PySem.W.OpenLaw.row PySem.Challenge.rw_toldquiet_k07_thicknesses_that_fit
abbrev hk : PySem.W.Hook := He.hookX 5 L.fa L.fn [] L.tf L.ex
def ob (s : PySem.W.SharedT) : He.AlX := He.obsX 5 L.fa L.fn [] L.tf L.ex (HandSHeadRun.getT s)
theorem ob_eq (s : PySem.W.SharedT) : ob s = hk.obs s.abs := He.obsX_eq (HandSHeadRun.getT_eq s)
def nm0 : List PySem.Str := ["Refused", "BadK", "BadRow", "BadRows", "NoDots", "BadMany", "BadView", "BadTs", "NoFit", "Blank", "Shared", "Thin", "BadWeights", "NoRoom", "is_number", "is_between", "is_tuple_of", "check_many", "lowest", "made_k", "wrong_row", "made_row", "thickness_of", "thickness", "made_ts", "spare_of", "spare", "fits", "most", "least_density"]
def nm1 : List PySem.Str := ["_law_pool", "_law_draw", "_law_row_gcd", "_law_row_low", "_law_row_drawn", "_law_kind_heard", "_law_kind_no_k", "_law_kind_no_ts", "_law_thick_counted", "_law_thick_row_right", "_law_thick_ts_right", "_law_thick_most_right", "_law_thick_refused", "MOST_K", "MOST_GAPS", "MOST_GAP", "MOST_TS", "MOST_T", "MOST_MANY"]
def names : List PySem.Str := nm0 ++ nm1
theorem run (w : World) : HandSHeadRun.RunEqI Rw (PySem.W.view Rw.prog [0, 54]) hk ob 12000 names w := by
  unfold HandSHeadRun.RunEqI
  kernel_rfl

end Ev

open PySem PySem.W PySem.Calls PyProof.Rows
theorem PySem.Challenge.cw_toldquiet_k07_thicknesses_that_fit_holds : PySem.Challenge.rw_toldquiet_k07_thicknesses_that_fit.Holds := by
  w_on; o_law
  refine HandSHeadRun.head_imp (r := OpenLaw.row PySem.Challenge.rw_toldquiet_k07_thicknesses_that_fit) (q := view (OpenLaw.row PySem.Challenge.rw_toldquiet_k07_thicknesses_that_fit).prog [0, 54]) (H := Ev.hk) (ob := Ev.ob) (M := 12000) (loose := Ev.names) (d := HandSHeadRun.topDef (OpenLaw.row PySem.Challenge.rw_toldquiet_k07_thicknesses_that_fit).prog 54) (kwd := []) Ev.ob_eq
     Ev.run (by kernel_rfl) (by kernel_rfl) (by kernel_rfl) (by rfl) (by first | assumption | decide +kernel) (by decide +kernel) ⟨rfl, rfl, rfl, rfl, rfl, by decide +kernel⟩ ?hw ?hc
  case hw => w_witness2
  case hc =>
    exact Ev.LawT.walk Ev.L (l := PySem.Challenge.rw_toldquiet_k07_thicknesses_that_fit) (n := 63) (N := Ev.depth) (ix := Ev.lawIx) rfl (by decide) (by kernel_rfl) ⟨rfl, by decide, by decide⟩ Ev.good rfl (by kernel_rfl) Ev.law_true

