import PyProof.Rows.All
import HandS.ForMost
import KE.SortData
import HandS.TupAny
import HandS.TupLe
import HandS.Deep
import HandS.IsInst
import HandS.ExcOwn
import HandS.Dict
import HandS.RaiseOp
import HandS.Style
import HandS.Flow
import HandS.AnyAll
import HandS.Defaults
import HandS.More
import HandS.GenList
import PyProof.GenRules
import PyProof.GenQ
import PyProof.TupleOfGen
import PyProof.ConsumeS
import PyProof.CollectWalk
import PyProof.Rows.SortShell
import HandS.SetBool
import HandS.SetKeys
import PyProof.SetRoads
import HandS.NoneIn
import HandS.WordsExc
import HandS.Codes
import HandS.HeadHook4
import HandS.HeadWalk
import HandS.Head2
import PyProof.P3Eq
import PySem.Challenge.RW_tickhold_k01_one_order
import KE.KStateDown
set_option autoImplicit true
set_option Elab.async false
set_option linter.all false
/-! MiA: a small language over pure data (with a store for lists): its syntax, its meaning. -/
namespace Mi
open PySem

/-- data; `ref n`: the n-th object of the store -/
inductive D where
  | non | bl (b : Bool) | int (i : Int) | str (x : Str) | tup (xs : List D) | ref (n : Nat)
  deriving Inhabited

/-- an object of the store; frz: a list that is only read -/
inductive Ob where
  | lst (xs : List D) | frz (xs : List D) | dct (kvs : List (L2.Key × D))
  deriving Inhabited
abbrev Store := List Ob

inductive Res (α : Type) where
  | ok (a : α) (S : Store) | ex (c : Nat) (v : D) (S : Store) | bad
abbrev M (α : Type) := Store → Res α
def Res.bind {α β : Type} (r : Res α) (f : α → M β) : Res β := match r with
  | .ok a S => f a S
  | .ex c v S => .ex c v S
  | .bad => .bad
@[simp] theorem Res.bind_ok {α β : Type} (a : α) (S : Store) (f : α → M β) : (Res.ok a S).bind f = f a S := rfl
@[simp] theorem Res.bind_ex {α β : Type} (c v S) (f : α → M β) : (Res.ex c v S : Res α).bind f = .ex c v S := rfl
@[simp] theorem Res.bind_bad {α β : Type} (f : α → M β) : (Res.bad : Res α).bind f = .bad := rfl
def ofO {α : Type} (o : Option α) (S : Store) : Res α := match o with | some a => .ok a S | none => .bad
@[simp] theorem ofO_some {α : Type} (a : α) (S : Store) : ofO (some a) S = .ok a S := rfl
@[simp] theorem ofO_none {α : Type} (S : Store) : ofO (none : Option α) S = .bad := rfl

/-! ### operations on data -/
mutual
def py : D → PyData
  | .non => .none
  | .bl b => .bool b
  | .int i => .int i
  | .str x => .str x
  | .tup xs => .tuple (pys xs)
  | .ref _ => .dict []
def pys : List D → List PyData
  | [] => []
  | x :: xs => py x :: pys xs
end
/-- data without references, not too deep -/
def fine (d : D) : Bool := SeqAt.shaped (py d)
def fines (ds : List D) : Bool := SeqAt.shaped (.tuple (pys ds))
def listAt (S : Store) (n : Nat) : Option (List D) := match S[n]? with
  | some (.lst xs) => some xs
  | some (.frz xs) => some xs
  | _ => none
/-- x == y -/
def peq (S : Store) (d e : D) : Option Bool := match d, e with
  | .ref n, .ref m => match listAt S n, listAt S m with
    | some xs, some ys => if fines xs && fines ys then some (PyData.eqvAll (pys xs) (pys ys)) else none
    | _, _ => none
  | d, e => if fine d && fine e then some (PyData.eqv (py d) (py e)) else none
def dInts : List D → Option (List Int)
  | [] => some []
  | .int i :: r => (dInts r).map (i :: ·)
  | _ :: _ => none
/-- keys of sets -/
def dKey : D → Option L2.Key
  | .int i => some (.inl i)
  | .str x => some (.inr x)
  | _ => none
def dKeys : List D → Option (List L2.Key)
  | [] => some []
  | d :: r => match dKey d, dKeys r with
    | some k, some ks => some (k :: ks)
    | _, _ => none
def nub {α : Type} [DecidableEq α] (l : List α) : List α := l.foldl (fun l y => if y ∈ l then l else l ++ [y]) []
open Classical in
/-- sorted -/
noncomputable def sortR (ds : List D) (S : Store) : Res D :=
  if PySem.W.AllAlike (ds.map py) ∧ PySem.W.Sortable (ds.map py) ∧ ds.length ≤ sizeLine ∧ (∀ d ∈ ds, (py d).depth ≤ 40) then .ok (.ref S.length) (S ++ [.lst (ds.mergeSort (PySem.W.dataLe false py))]) else .bad
def plt : D → D → Option Bool
  | .int i, .int j => some (decide (i < j))
  | .tup xs, .tup ys => match dInts xs, dInts ys with
    | some is, some js => some (HT.lexLt is js)
    | _, _ => none
  | _, _ => none
def truthD (S : Store) : D → Option Bool
  | .non => some false
  | .bl b => some b
  | .int i => some (i != 0)
  | .str x => if x.length ≤ sizeLine then some ((x.length : Int) != 0) else none
  | .tup xs => some (!xs.isEmpty)
  | .ref n => (listAt S n).map fun xs => !xs.isEmpty
def seqOf (S : Store) : D → Option (List D)
  | .tup xs => some xs
  | .ref n => listAt S n
  | _ => none
def isD : D → D → Option Bool
  | .bl a, .bl b => some (a == b)
  | .non, .non => some true
  | .bl _, .non => some false
  | .int _, .non => some false
  | .str _, .non => some false
  | .tup _, .non => some false
  | .ref _, .non => some false
  | _, _ => none
/-- x in xs -/
def inD (x : D) (xs : List D) : Option Bool := if fine x && fines xs then some ((pys xs).any fun y => PyData.eqv y (py x)) else none

inductive Bo where | add | sub | mul | mod | fdiv | pow
inductive Co where | eq | ne | lt | le | gt | ge | is | isnot | inn | notin
def big64 (i : Int) : Bool := decide (-(2 ^ 64) < i ∧ i < 2 ^ 64)
/-- the operations: may lay a new list -/
def binD (o : Bo) (a b : D) (S : Store) : Res D := match o, a, b with
  | .add, .int i, .int j => .ok (.int (i + j)) S
  | .sub, .int i, .int j => .ok (.int (i - j)) S
  | .mul, .int i, .int j => if big64 i || big64 j then .ok (.int (i * j)) S else .bad
  | .mod, .int i, .int j => if 0 < j then .ok (.int (i % j)) S else .bad
  | .fdiv, .int i, .int j => if 0 < j ∧ j < 1073741824 then .ok (.int (i / j)) S else .bad
  | .pow, .int i, .int j => if 0 ≤ j ∧ j ≤ 1000000 ∧ i.natAbs < 2 ^ 64 then .ok (.int (i ^ j.toNat)) S else .bad
  | .add, .tup xs, .tup ys => if xs.length + ys.length ≤ sizeLine then .ok (.tup (xs ++ ys)) S else .bad
  | .add, .ref n, .ref m => match S[n]?, S[m]? with
    | some (.lst xs), some (.lst ys) => if xs.length + ys.length ≤ sizeLine then .ok (.ref S.length) (S ++ [.lst (xs ++ ys)]) else .bad
    | _, _ => .bad
  | _, _, _ => .bad
def cmpD (o : Co) (a b : D) (S : Store) : Option Bool := match o with
  | .eq => peq S a b
  | .ne => (peq S a b).map (!·)
  | .lt => plt a b
  | .gt => (match a, b with | .int i, .int j => some (decide (j < i)) | _, _ => none)
  | .le => (match a, b with | .int i, .int j => some (decide (i ≤ j)) | _, _ => none)
  | .ge => (match a, b with | .int i, .int j => some (decide (j ≤ i)) | _, _ => none)
  | .is => isD a b
  | .isnot => (isD a b).map (!·)
  | .inn => (match seqOf S b with | some xs => inD a xs | none => none)
  | .notin => (match seqOf S b with | some xs => (inD a xs).map (!·) | none => none)
def dvl (kvs : List (L2.Key × D)) (k : L2.Key) : Option D := match kvs with
  | [] => none
  | (k', d) :: r => if k' = k then some d else dvl r k
/-- xs[i] -/
def subD (a i : D) (S : Store) : Option D := match i with
  | .str x => match a with
    | .ref n => (match S[n]? with | some (.dct kvs) => dvl kvs (.inr x) | _ => none)
    | _ => none
  | .int k => match seqOf S a with
    | some xs => L2.atI xs k
    | none => none
  | _ => none
def cut {α : Type} (xs : List α) (lo hi : Option Int) : List α := (xs.drop (HT.sIx xs.length 0 lo)).take (HT.sIx xs.length xs.length hi - HT.sIx xs.length 0 lo)
def slcD (a : D) (l h : Option Int) (S : Store) : Res D := match a with
  | .tup xs => .ok (.tup (cut xs l h)) S
  | .ref n => match listAt S n with
    | some xs => .ok (.ref S.length) (S ++ [.lst (cut xs l h)])
    | none => .bad
  | _ => .bad

inductive Ty where | int | bool | str | tuple | list
def isiD (S : Store) : D → Ty → Option Bool
  | .int _, t => some (match t with | .int => true | _ => false)
  | .bl _, t => some (match t with | .int => true | .bool => true | _ => false)
  | .str _, t => some (match t with | .str => true | _ => false)
  | .non, _ => some false
  | .tup _, t => some (match t with | .tuple => true | _ => false)
  | .ref n, t => (listAt S n).map fun _ => (match t with | .list => true | _ => false)

inductive Bf where | len | int | list | tuple | sum | abs
inductive Mt where | append | pop | remove
def fnD (b : Bf) (as : List D) (S : Store) : Res D := match b, as with
  | .len, [.tup xs] => .ok (.int xs.length) S
  | .len, [.str x] => if x.length ≤ sizeLine then .ok (.int x.length) S else .bad
  | .len, [.ref n] => match listAt S n with
    | some xs => .ok (.int xs.length) S
    | none => .bad
  | .int, [.int i] => .ok (.int i) S
  | .list, [d] => match seqOf S d with
    | some xs => .ok (.ref S.length) (S ++ [.lst xs])
    | none => .bad
  | .tuple, [d] => match seqOf S d with
    | some xs => .ok (.tup xs) S
    | none => .bad
  | .sum, [.ref n] => match listAt S n with
    | some xs => match dInts xs with
      | some is => .ok (.int is.sum) S
      | none => .bad
    | none => .bad
  | .abs, [.int i] => .ok (.int (if i < 0 then -i else i)) S
  | _, _ => .bad
def isLst (S : Store) : D → Bool
  | .ref n => match S[n]? with | some (.lst _) => true | _ => false
  | _ => false
def mthD (m : Mt) (o : D) (as : List D) (S : Store) : Res D := match o with
  | .ref n => match m, S[n]?, as with
    | .append, some (.lst xs), [d] => if xs.length < sizeLine then .ok .non (S.set n (.lst (xs ++ [d]))) else .bad
    | .pop, some (.lst xs), [] => match xs[xs.length - 1]? with
      | some d => .ok d (S.set n (.lst xs.dropLast))
      | none => .bad
    | _, _, _ => .bad
  | _ => .bad

/-! ### syntax -/
inductive Tg where | nm (i : Nat) | tup (is : List Nat)
inductive Gk where | all | any | tup | sum | sorted
inductive E where
  | nil | cons (a b : E)
  | var (i : Nat) | cst (d : D) | glb (f : Nat)
  | tup (es : E) | lst (es : E)
  | bin (o : Bo) (a b : E) | neg (a : E)
  | cmp (o : Co) (a b : E) | chn (o1 o2 : Co) (a b c : E)
  | and (es : E) | or (es : E) | not (a : E) | ite (c a b : E)
  /-- the truth of a value -/
  | tr (a : E)
  | sub (a i : E) | slc (a lo hi : E) | rev (a : E)
  | call (f : Nat) (es : E) | fn (b : Bf) (es : E) | isi (a : E) (t : Ty) | mth (m : Mt) (o es : E)
  | itSeq (a : E) | itRng1 (a : E) | itRng2 (a b : E) | itZip (a b : E) | itEnum (a : E)
  | lc (own : List Nat) (g : Tg) (it ifs elt : E)
  | gen (k : Gk) (no : Nat) (caps : List Nat) (g : Tg) (it ifs elt : E)
  | lenSet (own : List Nat) (g : Tg) (it ifs elt : E)
  /-- a written dict of the module with text keys: in, not in; x[i] -/
  | inG (ng : Bool) (a : E) (f : Nat) | subG (f : Nat) (i : E)
  /-- a dict's display with text keys -/
  | dsp (ks : List Str) (vs : E)
  deriving Inhabited
inductive Sx where
  | nil | cons (a b : Sx)
  | set (i : Nat) (e : E) | unp (is : List Nat) (e : E) | par (is : List Nat) (es : E)
  | sto (o i e : E) | aug (i : Nat) (o : Bo) (e : E)
  | iff (c : E) (a b : Sx) | whl (c : E) (b : Sx) | forr (g : Tg) (it : E) (b : Sx)
  | ret (e : E) | retN | exp (e : E) | brk | cnt | pass
  | rse (c : Nat) (es : E) | nev
  deriving Inhabited

/-! ### meaning -/
abbrev Env := List (Option D)
abbrev Orc := Nat → List D → M D
def asg (g : Tg) (d : D) (ρ : Env) : Option Env := match g, d with
  | .nm i, d => some (ρ.set i (some d))
  | .tup is, .tup ds => if is.length = ds.length then some ((is.zip ds).foldl (fun r p => r.set p.1 (some p.2)) ρ) else none
  | .tup _, _ => none
def wipeE (ρ : Env) : List Nat → Env
  | [] => ρ
  | v :: vs => (wipeE ρ vs).set v none
/-- what a loop walks: the list that must stand still, the items -/
abbrev Items := Option (Nat × List D) × List D
def still (g : Option (Nat × List D)) (S : Store) : Prop := match g with
  | none => True
  | some (n, xs) => listAt S n = some xs
open Classical in
noncomputable def stepAll {α : Type} (g : Option (Nat × List D)) (f : D → α → M α) : List D → α → M α
  | [], a, S => if still g S then .ok a S else .bad
  | x :: xs, a, S => if still g S then (f x a S).bind fun a' S' => stepAll g f xs a' S' else .bad
def itemsOf (S : Store) (d : D) : Option Items := match d with
  | .tup xs => some (none, xs)
  | .ref n => (listAt S n).map fun xs => (some (n, xs), xs)
  | _ => none
def rng1 : D → Option (List D)
  | .int n => if n < 2 ^ 62 ∧ -(2 ^ 62) ≤ n then some ((List.range n.toNat).map fun (i : Nat) => .int (i : Int)) else none
  | _ => none
def rng2 : D → D → Option (List D)
  | .int a, .int b => if (-(2 ^ 62) ≤ a ∧ a < 2 ^ 62) ∧ (-(2 ^ 62) ≤ b ∧ b < 2 ^ 62) then some ((List.range (b - a).toNat).map fun (i : Nat) => .int (a + (i : Int))) else none
  | _, _ => none
section
variable (Φ : Orc)
open Classical in
/-- for a comprehension, a generator: the items one behind the other; acc: what was made so far -/
noncomputable def comp (g : Option (Nat × List D)) (step : D → M (Option D)) : List D → List D → M (List D)
  | [], acc, S => if still g S then .ok acc S else .bad
  | x :: xs, acc, S => if still g S then
      (match step x S with
      | .ok (some y) S' => if acc.length < sizeLine then comp g step xs (acc ++ [y]) S' else .bad
      | .ok none S' => comp g step xs acc S'
      | _ => .bad) else .bad
open Classical in
/-- all, any: the walk stops where the answer is known -/
noncomputable def quant (stop : Bool) (g : Option (Nat × List D)) (step : D → M (Option D)) : List D → M D
  | [], S => if still g S then .ok (.bl (!stop)) S else .bad
  | x :: xs, S => if still g S then
      (match step x S with
      | .ok (some (.bl b)) S' => if b = stop then .ok (.bl stop) S' else quant stop g step xs S'
      | .ok none S' => quant stop g step xs S'
      | _ => .bad) else .bad
mutual
noncomputable def ev : E → Env → M D
  | .var i, ρ, S => match ρ[i]? with | some (some d) => .ok d S | _ => .bad
  | .cst d, _, S => .ok d S
  | .glb f, _, S => Φ f [] S
  | .tup es, ρ, S => (evs es ρ S).bind fun ds S => if ds.length ≤ sizeLine then .ok (.tup ds) S else .bad
  | .lst es, ρ, S => (evs es ρ S).bind fun ds S => if ds.length ≤ sizeLine then .ok (.ref S.length) (S ++ [.lst ds]) else .bad
  | .bin o a b, ρ, S => (ev a ρ S).bind fun x S => (ev b ρ S).bind fun y S => binD o x y S
  | .neg a, ρ, S => (ev a ρ S).bind fun x S => match x with | .int i => .ok (.int (-i)) S | _ => .bad
  | .cmp o a b, ρ, S => (ev a ρ S).bind fun x S => (ev b ρ S).bind fun y S => ofO ((cmpD o x y S).map D.bl) S
  | .chn o1 o2 a b c, ρ, S => (ev a ρ S).bind fun x S => (ev b ρ S).bind fun y S => match cmpD o1 x y S with
    | some true => (ev c ρ S).bind fun z S => ofO ((cmpD o2 y z S).map D.bl) S
    | some false => .ok (.bl false) S
    | none => .bad
  | .and es, ρ, S => evAnd es ρ S
  | .or es, ρ, S => evOr es ρ S
  | .not a, ρ, S => (ev a ρ S).bind fun x S => ofO ((truthD S x).map fun b => .bl (!b)) S
  | .ite c a b, ρ, S => (evT c ρ S).bind fun k S => if k = true then ev a ρ S else ev b ρ S
  | .sub a i, ρ, S => (ev a ρ S).bind fun x S => (ev i ρ S).bind fun y S => ofO (subD x y S) S
  | .slc a lo hi, ρ, S => (ev a ρ S).bind fun x S => (evP lo ρ S).bind fun l S => (evP hi ρ S).bind fun h S => slcD x l h S
  | .rev a, ρ, S => (ev a ρ S).bind fun x S => match x with
    | .ref n => (match listAt S n with | some xs => .ok (.ref S.length) (S ++ [.lst xs.reverse]) | none => .bad)
    | _ => .bad
  | .call f es, ρ, S => (evs es ρ S).bind fun ds S => Φ f ds S
  | .fn b es, ρ, S => (evs es ρ S).bind fun ds S => fnD b ds S
  | .isi a t, ρ, S => (ev a ρ S).bind fun x S => ofO ((isiD S x t).map D.bl) S
  | .mth m o es, ρ, S => (ev o ρ S).bind fun x S => if isLst S x = true then (evs es ρ S).bind fun ds S => mthD m x ds S else .bad
  | .lc own g it ifs elt, ρ, S => (evIt it ρ S).bind fun its S =>
      (comp its.1 (fun x S => match asg g x (wipeE ρ own) with
        | some ρ' => (evAll ifs ρ' S).bind fun b S => if b = true then (ev elt ρ' S).bind fun y S => .ok (some y) S else .ok none S
        | none => .bad) its.2 [] S).bind fun acc S => .ok (.ref S.length) (S ++ [.lst acc])
  | .lenSet own g it ifs elt, ρ, S => (evIt it ρ S).bind fun its S =>
      (comp its.1 (fun x S => match asg g x (wipeE ρ own) with
        | some ρ' => (evAll ifs ρ' S).bind fun b S => if b = true then (ev elt ρ' S).bind fun y S => .ok (some y) S else .ok none S
        | none => .bad) its.2 [] S).bind fun acc S => match dKeys acc with
        | some ks => if ks.length < 1000 then .ok (.int (nub ks).length) S else .bad
        | none => .bad
  | .inG ng a f, ρ, S => (ev a ρ S).bind fun d S => (Φ f [d] S).bind fun _ S => .ok (.bl (!ng)) S
  | .subG f i, ρ, S => (ev i ρ S).bind fun d S => Φ f [d] S
  | .dsp ks vs, ρ, S => (evs vs ρ S).bind fun ds S => if ds.length = ks.length ∧ ks.Nodup ∧ ks.length ≤ 15 then .ok (.ref S.length) (S ++ [.dct ((ks.map Sum.inr).zip ds)]) else .bad
  | .gen k no caps g it ifs elt, ρ, S => (evIt it ρ S).bind fun its S =>
      let step := fun x S => match asg g x (List.replicate no none ++ caps.map fun i => (ρ[i]?).join) with
        | some ρ' => (evAll ifs ρ' S).bind fun b S => if b = true then (ev elt ρ' S).bind fun y S => .ok (some y) S else .ok none S
        | none => .bad
      match k with
      | .all => quant false its.1 step its.2 S
      | .any => quant true its.1 step its.2 S
      | .tup => (comp its.1 step its.2 [] S).bind fun acc S => .ok (.tup acc) S
      | .sum => (comp its.1 step its.2 [] S).bind fun acc S => match dInts acc with
        | some is => if is.all big64 then .ok (.int is.sum) S else .bad
        | none => .bad
      | .sorted => (comp its.1 step its.2 [] S).bind fun acc S => sortR acc S
  | _, _, _ => .bad
noncomputable def evs : E → Env → M (List D)
  | .nil, _, S => .ok [] S
  | .cons a b, ρ, S => (ev a ρ S).bind fun x S => (evs b ρ S).bind fun xs S => .ok (x :: xs) S
  | _, _, _ => .bad
/-- a test -/
noncomputable def evT : E → Env → M Bool
  | .and es, ρ, S => evAll es ρ S
  | .or es, ρ, S => evAny es ρ S
  | .not a, ρ, S => (evT a ρ S).bind fun b S => .ok (!b) S
  | .tr e, ρ, S => (ev e ρ S).bind fun x S => ofO (truthD S x) S
  | _, _, _ => .bad
/-- all tests hold, from the left -/
noncomputable def evAll : E → Env → M Bool
  | .nil, _, S => .ok true S
  | .cons a b, ρ, S => (evT a ρ S).bind fun k S => if k = true then evAll b ρ S else .ok false S
  | _, _, _ => .bad
noncomputable def evAny : E → Env → M Bool
  | .nil, _, S => .ok false S
  | .cons a b, ρ, S => (evT a ρ S).bind fun k S => if k = true then .ok true S else evAny b ρ S
  | _, _, _ => .bad
/-- and, or as values: all but the last are bools -/
noncomputable def evAnd : E → Env → M D
  | .cons a .nil, ρ, S => ev a ρ S
  | .cons a b, ρ, S => (ev a ρ S).bind fun x S => match x with | .bl true => evAnd b ρ S | .bl false => .ok (.bl false) S | _ => .bad
  | _, _, _ => .bad
noncomputable def evOr : E → Env → M D
  | .cons a .nil, ρ, S => ev a ρ S
  | .cons a b, ρ, S => (ev a ρ S).bind fun x S => match x with | .bl false => evOr b ρ S | .bl true => .ok (.bl true) S | _ => .bad
  | _, _, _ => .bad
/-- a slice's part -/
noncomputable def evP : E → Env → M (Option Int)
  | .nil, _, S => .ok none S
  | .cons e .nil, ρ, S => (ev e ρ S).bind fun x S => match x with | .int i => .ok (some i) S | _ => .bad
  | _, _, _ => .bad
noncomputable def evIt : E → Env → M Items
  | .itSeq a, ρ, S => (ev a ρ S).bind fun x S => ofO (itemsOf S x) S
  | .itRng1 a, ρ, S => (ev a ρ S).bind fun x S => ofO ((rng1 x).map fun xs => (none, xs)) S
  | .itRng2 a b, ρ, S => (ev a ρ S).bind fun x S => (ev b ρ S).bind fun y S => ofO ((rng2 x y).map fun xs => (none, xs)) S
  | _, _, _ => .bad
end
end
end Mi

namespace Mi
open PySem
inductive Fl where | nx | brk | cnt | ret (d : D)
  deriving Inhabited
/-- a turn's end within a loop -/
abbrev Out := Fl × Env
noncomputable def whlF (c : Env → M Bool) (b : Env → M Out) : Nat → Env → M Out
  | 0, _, _ => .bad
  | n + 1, ρ, S => (c ρ S).bind fun k S => if k = true then
      (match b ρ S with
      | .ok (.nx, ρ') S' => whlF c b n ρ' S'
      | .ok (.cnt, ρ') S' => whlF c b n ρ' S'
      | .ok (.brk, ρ') S' => .ok (.nx, ρ') S'
      | .ok (.ret d, ρ') S' => .ok (.ret d, ρ') S'
      | .ex c v S' => .ex c v S'
      | .bad => .bad) else .ok (.nx, ρ) S
open Classical in
/-- a while: what enough turns give -/
noncomputable def whlC (c : Env → M Bool) (b : Env → M Out) (ρ : Env) (S : Store) : Res Out :=
  if h : ∃ n, whlF c b n ρ S ≠ .bad then whlF c b h.choose ρ S else .bad
open Classical in
noncomputable def forEv (g : Option (Nat × List D)) (body : D → Env → M Out) : List D → Env → M Out
  | [], ρ, S => if still g S then .ok (.nx, ρ) S else .bad
  | x :: xs, ρ, S => if still g S then
      (match body x ρ S with
      | .ok (.nx, ρ') S' => forEv g body xs ρ' S'
      | .ok (.cnt, ρ') S' => forEv g body xs ρ' S'
      | .ok (.brk, ρ') S' => .ok (.nx, ρ') S'
      | .ok (.ret d, ρ') S' => .ok (.ret d, ρ') S'
      | .ex c v S' => .ex c v S'
      | .bad => .bad) else .bad
/-- o[i] = d -/
def stoD (o i d : D) (S : Store) : Res Unit := match o, i with
  | .ref n, .int k => match S[n]? with
    | some (.lst xs) => (match L2.ixN xs.length k with
      | some j => .ok () (S.set n (.lst (xs.set j d)))
      | none => .bad)
    | _ => .bad
  | _, _ => .bad
def setAll (ρ : Env) (is : List Nat) (ds : List D) : Option Env := if is.length = ds.length then some ((is.zip ds).foldl (fun r p => r.set p.1 (some p.2)) ρ) else none
noncomputable def exec (Φ : Orc) : Sx → Env → M Out
  | .nil, ρ, S => .ok (.nx, ρ) S
  | .cons a b, ρ, S => match exec Φ a ρ S with
    | .ok (.nx, ρ') S' => exec Φ b ρ' S'
    | r => r
  | .set i e, ρ, S => (ev Φ e ρ S).bind fun d S => .ok (.nx, ρ.set i (some d)) S
  | .unp is e, ρ, S => (ev Φ e ρ S).bind fun d S => match seqOf S d with
    | some ds => (match setAll ρ is ds with | some ρ' => .ok (.nx, ρ') S | none => .bad)
    | none => .bad
  | .par is es, ρ, S => (evs Φ es ρ S).bind fun ds S => match setAll ρ is ds with | some ρ' => .ok (.nx, ρ') S | none => .bad
  | .sto o i e, ρ, S => (ev Φ e ρ S).bind fun d S => (ev Φ o ρ S).bind fun x S => (ev Φ i ρ S).bind fun y S => (stoD x y d S).bind fun _ S => .ok (.nx, ρ) S
  | .aug i o e, ρ, S => match ρ[i]? with
    | some (some (.int a)) => (ev Φ e ρ S).bind fun d S => match o, d with
      | .add, .int b => .ok (.nx, ρ.set i (some (.int (a + b)))) S
      | .sub, .int b => .ok (.nx, ρ.set i (some (.int (a - b)))) S
      | _, _ => .bad
    | _ => .bad
  | .iff c a b, ρ, S => (evT Φ c ρ S).bind fun k S => if k = true then exec Φ a ρ S else exec Φ b ρ S
  | .whl c b, ρ, S => whlC (evT Φ c) (exec Φ b) ρ S
  | .forr g it b, ρ, S => (evIt Φ it ρ S).bind fun its S => forEv its.1 (fun x ρ S => match asg g x ρ with
    | some ρ' => exec Φ b ρ' S
    | none => .bad) its.2 ρ S
  | .ret e, ρ, S => (ev Φ e ρ S).bind fun d S => .ok (.ret d, ρ) S
  | .retN, ρ, S => .ok (.ret .non, ρ) S
  | .exp e, ρ, S => (ev Φ e ρ S).bind fun _ S => .ok (.nx, ρ) S
  | .brk, ρ, S => .ok (.brk, ρ) S
  | .cnt, ρ, S => .ok (.cnt, ρ) S
  | .pass, ρ, S => .ok (.nx, ρ) S
  | .rse c e, ρ, S => (ev Φ e ρ S).bind fun d S => .ex c d S
  | .nev, _, _ => .bad
/-- a def: its parameters, its names, its body -/
structure Fn where
  np : Nat
  nn : Nat
  body : Sx
  deriving Inhabited
noncomputable def runFn (Φ : Orc) (f : Fn) (ds : List D) (S : Store) : Res D :=
  if ds.length = f.np then
    (match exec Φ f.body (ds.map some ++ List.replicate (f.nn - f.np) none) S with
    | .ok (.ret d, _) S' => .ok d S'
    | .ok (.nx, _) S' => .ok .non S'
    | .ok _ _ => .bad
    | .ex c v S' => .ex c v S'
    | .bad => .bad) else .bad
/-- a constant of the module -/
inductive Gv where | con (d : D) | dic (kv : List (Str × D))
/-- .. looked up: behind the defs -/
def gLook (tab : List Fn) (gd : List Gv) (i : Nat) (ds : List D) (S : Store) : Res D := match gd[i - tab.length]?, ds with
  | some (.con d), [] => .ok d S
  | some (.dic kv), [.str x] => ofO (kv.lookup x) S
  | _, _ => .bad
/-- the defs of a table, so many calls one within another; the module's constants -/
noncomputable def F (tab : List Fn) (gd : List Gv) : Nat → Orc
  | 0, i, ds, S => if i < tab.length then .bad else gLook tab gd i ds S
  | n + 1, i, ds, S => match tab[i]? with
    | some f => runFn (F tab gd n) f ds S
    | none => gLook tab gd i ds S
end Mi
set_option autoImplicit true
set_option Elab.async false
set_option linter.all false
set_option maxRecDepth 100000
set_option maxHeartbeats 2000000
/-! MiB1: how the small language's data stand in the heap. -/
namespace Mi
open PySem PySem.Spec PyProof.Rows L2

mutual
/-- the value v is the data d; al: where the store's objects stand -/
inductive RV (K : PySem.W.Frag) (al : List Addr) (H : Hp) : D → V → Prop
  | non : RV K al H .non .non
  | bl (b : Bool) : RV K al H (.bl b) (.bl b)
  | int (i : Int) : RV K al H (.int i) (.int i)
  | str (x : Str) : RV K al H (.str x) (.str x)
  | tup {a : Addr} {vs : List V} {ds : List D} : SqT K H a vs → RVs K al H ds vs → RV K al H (.tup ds) (.ref a)
  | ref {n : Nat} {a : Addr} : al[n]? = some a → RV K al H (.ref n) (.ref a)
inductive RVs (K : PySem.W.Frag) (al : List Addr) (H : Hp) : List D → List V → Prop
  | nil : RVs K al H [] []
  | cons {d : D} {v : V} {ds : List D} {vs : List V} : RV K al H d v → RVs K al H ds vs → RVs K al H (d :: ds) (v :: vs)
end
/-- the object o stands at a -/
def RO (K : PySem.W.Frag) (al : List Addr) (H : Hp) (a : Addr) : Ob → Prop
  | .lst ds => ∃ vs, H a = some (.lst vs) ∧ RVs K al H ds vs
  | .frz ds => ∃ vs, Rd H a (.lst vs) ∧ RVs K al H ds vs
  | .dct kvs => ∃ kws, H a = some (.dK kws) ∧ kws.map (·.1) = kvs.map (·.1) ∧ RVs K al H (kvs.map (·.2)) (kws.map (·.2))
/-- the store stands in the heap; T: the tables of code objects -/
structure WI (K : PySem.W.Frag) (T : List Addr) (al : List Addr) (S : Store) (H : Hp) : Prop where
  len : al.length = S.length
  nd : al.Nodup
  ob : ∀ (n : Nat) (o : Ob) (a : Addr), S[n]? = some o → al[n]? = some a → RO K al H a o
  tab : ∀ p ∈ T, ∃ ps, H p = some (.tbl ps) ∧ TriplesOk ps.toList
/-- the names -/
structure RE (K : PySem.W.Frag) (al : List Addr) (H : Hp) (ρ : Env) (σ : L2.St) : Prop where
  len : ρ.length = σ.length
  at_ : ∀ (i : Nat) (d : D), ρ[i]? = some (some d) → ∃ v, σ[i]? = some (some v) ∧ RV K al H d v
/-- what a run may change of the heap -/
structure Ext (al : List Addr) (H : Hp) (al' : List Addr) (H' : Hp) : Prop where
  pre : al <+: al'
  new : ∀ b ∈ al', b ∈ al ∨ H b = none
  keep : ∀ b o, H b = some o → b ∉ al → (∀ ps, o ≠ .tbl ps) → H' b = some o
  tab : ∀ b ps, H b = some (.tbl ps) → b ∉ al → ∃ ps', H' b = some (.tbl ps')

section
variable {K : PySem.W.Frag} {T al al' al'' : List Addr} {S S' : Store} {H H' H'' : Hp} {d : D} {v : V}
theorem Ext.refl : Ext al H al H := ⟨List.prefix_refl _, fun b hb => .inl hb, fun b o e _ _ => e, fun b ps e _ => ⟨ps, e⟩⟩
theorem Ext.notin (x : Ext al H al' H') {b : Addr} {o : HO} (e : H b = some o) (h : b ∉ al) : b ∉ al' := fun hb => by
  rcases x.new b hb with z | z
  · exact h z
  · rw [z] at e; cases e
theorem Ext.trans (x : Ext al H al' H') (y : Ext al' H' al'' H'') : Ext al H al'' H'' where
  pre := x.pre.trans y.pre
  new := fun b hb => by
    rcases y.new b hb with z | z
    · exact x.new b z
    · by_cases hm : b ∈ al
      · exact .inl hm
      · cases e : H b with
        | none => exact .inr rfl
        | some o =>
          exfalso
          by_cases ht : ∃ ps, o = .tbl ps
          · obtain ⟨ps, rfl⟩ := ht
            obtain ⟨ps', e'⟩ := x.tab b ps e hm
            rw [z] at e'; cases e'
          · have := x.keep b o e hm fun ps q => ht ⟨ps, q⟩
            rw [z] at this; cases this
  keep := fun b o e h n => y.keep b o (x.keep b o e h n) (x.notin e h) n
  tab := fun b ps e h => by
    obtain ⟨ps', e'⟩ := x.tab b ps e h
    exact y.tab b ps' e' (x.notin e h)
theorem WI.get (w : WI K T al S H) {n : Nat} {o : Ob} (h : S[n]? = some o) : ∃ a, al[n]? = some a ∧ RO K al H a o := by
  have hn : n < S.length := (List.getElem?_eq_some_iff.mp h).1
  have hn' : n < al.length := by rw [w.len]; exact hn
  exact ⟨al[n], List.getElem?_eq_getElem hn', w.ob n o _ h (List.getElem?_eq_getElem hn')⟩
theorem WI.mem (w : WI K T al S H) {a : Addr} (h : a ∈ al) : ∃ (n : Nat) (o : Ob), S[n]? = some o ∧ al[n]? = some a := by
  obtain ⟨n, hn, e⟩ := List.getElem_of_mem h
  have hn' : n < S.length := by rw [← w.len]; exact hn
  exact ⟨n, S[n], List.getElem?_eq_getElem hn', by rw [List.getElem?_eq_getElem hn, e]⟩
theorem WI.notup (w : WI K T al S H) {a : Addr} {xs : List V} (h : Rd H a (.tup xs)) : a ∉ al := fun hm => by
  obtain ⟨n, o, e1, e2⟩ := w.mem hm
  have r := w.ob n o a e1 e2
  cases o with
  | lst ds =>
    obtain ⟨vs, e, _⟩ := r
    rcases h with h | ⟨o, h⟩ <;> rw [e] at h <;> cases h
  | frz ds =>
    obtain ⟨vs, e, _⟩ := r
    rcases e with e | ⟨u, e⟩ <;> rcases h with h | ⟨o, h⟩ <;> rw [e] at h <;> cases h
  | dct kvs =>
    obtain ⟨vs, e, _⟩ := r
    rcases h with h | ⟨o, h⟩ <;> rw [e] at h <;> cases h
theorem WI.sqT (w : WI K T al S H) (x : Ext al H al' H') {a : Addr} {xs : List V} (h : SqT K H a xs) : SqT K H' a xs := by
  rcases h with h | h
  · refine .inl ?_
    have hn := w.notup h
    rcases h with h | ⟨o, h⟩
    · exact .inl (x.keep _ _ h hn fun ps q => by cases q)
    · exact .inr ⟨o, x.keep _ _ h hn fun ps q => by cases q⟩
  · exact .inr h
theorem pre_get (x : al <+: al') {n : Nat} {a : Addr} (h : al[n]? = some a) : al'[n]? = some a := by
  obtain ⟨t, rfl⟩ := x
  rw [List.getElem?_append_left (List.getElem?_eq_some_iff.mp h).1]
  exact h
mutual
theorem RV.mono (hT : ∀ a xs, SqT K H a xs → SqT K H' a xs) (hp : al <+: al') : ∀ {d : D} {v : V}, RV K al H d v → RV K al' H' d v
  | _, _, .non => .non
  | _, _, .bl b => .bl b
  | _, _, .int i => .int i
  | _, _, .str x => .str x
  | _, _, .tup h r => .tup (hT _ _ h) (RVs.mono hT hp r)
  | _, _, .ref h => .ref (pre_get hp h)
theorem RVs.mono (hT : ∀ a xs, SqT K H a xs → SqT K H' a xs) (hp : al <+: al') : ∀ {ds : List D} {vs : List V}, RVs K al H ds vs → RVs K al' H' ds vs
  | _, _, .nil => .nil
  | _, _, .cons r t => .cons (RV.mono hT hp r) (RVs.mono hT hp t)
end
theorem RV.ext (w : WI K T al S H) (x : Ext al H al' H') (r : RV K al H d v) : RV K al' H' d v := r.mono (fun _ _ h => w.sqT x h) x.pre
theorem RVs.ext (w : WI K T al S H) (x : Ext al H al' H') {ds : List D} {vs : List V} (r : RVs K al H ds vs) : RVs K al' H' ds vs := r.mono (fun _ _ h => w.sqT x h) x.pre
theorem RE.ext (w : WI K T al S H) (x : Ext al H al' H') {ρ : Env} {σ : L2.St} (r : RE K al H ρ σ) : RE K al' H' ρ σ :=
  ⟨r.len, fun i d e => let ⟨v, h1, h2⟩ := r.at_ i d e; ⟨v, h1, h2.ext w x⟩⟩
theorem RVs.length {ds : List D} {vs : List V} (r : RVs K al H ds vs) : ds.length = vs.length := by
  induction ds generalizing vs with
  | nil => cases r; rfl
  | cons d ds ih => cases r with | cons r t => simp [ih t]
theorem RVs.get {ds : List D} {vs : List V} (r : RVs K al H ds vs) {i : Nat} {d : D} (h : ds[i]? = some d) : ∃ v, vs[i]? = some v ∧ RV K al H d v := by
  induction ds generalizing vs i with
  | nil => simp at h
  | cons d' ds ih =>
    cases r with
    | cons r t =>
      cases i with
      | zero => simp at h; subst h; exact ⟨_, rfl, r⟩
      | succ i => simpa using ih t (by simpa using h)
theorem RVs.get' {ds : List D} {vs : List V} (r : RVs K al H ds vs) {i : Nat} {v : V} (h : vs[i]? = some v) : ∃ d, ds[i]? = some d ∧ RV K al H d v := by
  induction ds generalizing vs i with
  | nil => cases r; simp at h
  | cons d' ds ih =>
    cases r with
    | cons r t =>
      cases i with
      | zero => simp at h; subst h; exact ⟨_, rfl, r⟩
      | succ i => simpa using ih t (by simpa using h)
theorem RVs.append {ds es : List D} {vs ws : List V} (r : RVs K al H ds vs) (q : RVs K al H es ws) : RVs K al H (ds ++ es) (vs ++ ws) := by
  induction ds generalizing vs with
  | nil => cases r; exact q
  | cons d ds ih => cases r with | cons r t => exact .cons r (ih t)
theorem RVs.take {ds : List D} {vs : List V} (r : RVs K al H ds vs) (n : Nat) : RVs K al H (ds.take n) (vs.take n) := by
  induction ds generalizing vs n with
  | nil => cases r; cases n <;> exact .nil
  | cons d ds ih => cases r with | cons r t => cases n with | zero => exact .nil | succ n => exact .cons r (ih t n)
theorem RVs.drop {ds : List D} {vs : List V} (r : RVs K al H ds vs) (n : Nat) : RVs K al H (ds.drop n) (vs.drop n) := by
  induction ds generalizing vs n with
  | nil => cases r; cases n <;> exact .nil
  | cons d ds ih => cases r with | cons r t => cases n with | zero => exact .cons r t | succ n => exact ih t n
theorem RVs.set {ds : List D} {vs : List V} (r : RVs K al H ds vs) {d : D} {v : V} (q : RV K al H d v) (n : Nat) : RVs K al H (ds.set n d) (vs.set n v) := by
  induction ds generalizing vs n with
  | nil => cases r; exact .nil
  | cons d' ds ih => cases r with | cons r t => cases n with | zero => exact .cons q t | succ n => exact .cons r (ih t n)
theorem RVs.reverse {ds : List D} {vs : List V} (r : RVs K al H ds vs) : RVs K al H ds.reverse vs.reverse := by
  induction ds generalizing vs with
  | nil => cases r; exact .nil
  | cons d ds ih => cases r with | cons r t => rw [List.reverse_cons, List.reverse_cons]; exact (ih t).append (.cons r .nil)
theorem RVs.dropLast {ds : List D} {vs : List V} (r : RVs K al H ds vs) : RVs K al H ds.dropLast vs.dropLast := by
  rw [List.dropLast_eq_take, List.dropLast_eq_take, r.length]; exact r.take _
theorem RVs.ints {ds : List D} {vs : List V} (r : RVs K al H ds vs) : ∀ {is : List Int}, dInts ds = some is → vs = is.map V.int := by
  induction ds generalizing vs with
  | nil => intro is h; cases r; simp [dInts] at h; subst h; rfl
  | cons d ds ih =>
    intro is h
    cases r with
    | cons r t =>
      cases r <;> simp [dInts] at h
      obtain ⟨js, h1, rfl⟩ := h
      rw [ih t h1]; rfl
theorem RVs.ofInts : ∀ (is : List Int), RVs K al H (is.map D.int) (is.map V.int)
  | [] => .nil
  | i :: r => .cons (.int i) (RVs.ofInts r)

/-! ### a new object, a changed one -/
theorem sqT_upd {p : Addr} {o : HO} (hp : H p = none) {a : Addr} {xs : List V} (h : SqT K H a xs) : SqT K (upd H p o) a xs := by
  rcases h with (h | ⟨u, h⟩) | h
  · exact .inl (.inl (by rw [upd_ne (ne_of_none h hp)]; exact h))
  · exact .inl (.inr ⟨u, by rw [upd_ne (ne_of_none h hp)]; exact h⟩)
  · exact .inr h
theorem Ext.tup {p : Addr} {o : HO} (hp : H p = none) : Ext al H al (upd H p o) :=
  ⟨List.prefix_refl _, fun b hb => .inl hb, fun b u e _ _ => by rw [upd_ne (ne_of_none e hp)]; exact e, fun b ps e _ => ⟨ps, by rw [upd_ne (ne_of_none e hp)]; exact e⟩⟩
theorem Ext.new1 {p : Addr} {o : HO} (hp : H p = none) : Ext al H (al ++ [p]) (upd H p o) :=
  ⟨List.prefix_append _ _, fun b hb => by
    rcases List.mem_append.mp hb with z | z
    · exact .inl z
    · rw [List.mem_singleton.mp z]; exact .inr hp, fun b u e _ _ => by rw [upd_ne (ne_of_none e hp)]; exact e, fun b ps e _ => ⟨ps, by rw [upd_ne (ne_of_none e hp)]; exact e⟩⟩
theorem RO.some {a : Addr} {ob : Ob} (r : RO K al H a ob) : H a ≠ none := by
  cases ob with
  | lst ds => obtain ⟨vs, e, _⟩ := r; rw [e]; exact fun z => nomatch z
  | frz ds => obtain ⟨vs, e | ⟨o, e⟩, _⟩ := r <;> (rw [e]; exact fun z => nomatch z)
  | dct kvs => obtain ⟨vs, e, _⟩ := r; rw [e]; exact fun z => nomatch z
/-- an object that is not touched -/
theorem RO.mono {a : Addr} {ob : Ob} (r : RO K al H a ob) (e : H' a = H a) (hT : ∀ a xs, SqT K H a xs → SqT K H' a xs) (hx : al <+: al') : RO K al' H' a ob := by
  cases ob with
  | lst ds => obtain ⟨vs, z, r⟩ := r; exact ⟨vs, e.trans z, r.mono hT hx⟩
  | frz ds =>
    obtain ⟨vs, z, r⟩ := r
    refine ⟨vs, ?_, r.mono hT hx⟩
    rcases z with z | ⟨u, z⟩
    · exact .inl (e.trans z)
    · exact .inr ⟨u, e.trans z⟩
  | dct kvs => obtain ⟨vs, z, k, r⟩ := r; exact ⟨vs, e.trans z, k, r.mono hT hx⟩
theorem WI.notbl (w : WI K T al S H) {a : Addr} {ps : Array Value} (h : H a = some (.tbl ps)) : a ∉ al := fun hm => by
  obtain ⟨n, o, e1, e2⟩ := w.mem hm
  have r := w.ob n o a e1 e2
  cases o with
  | lst ds => obtain ⟨vs, e, _⟩ := r; rw [e] at h; cases h
  | frz ds => obtain ⟨vs, e | ⟨u, e⟩, _⟩ := r <;> (rw [e] at h; cases h)
  | dct kvs => obtain ⟨vs, e, _⟩ := r; rw [e] at h; cases h
theorem WI.there (w : WI K T al S H) {a : Addr} (h : a ∈ al) : H a ≠ none := by
  obtain ⟨n, o, e1, e2⟩ := w.mem h
  exact (w.ob n o a e1 e2).some
/-- a new thing that the store does not hold (a tuple) -/
theorem WI.tup (w : WI K T al S H) {p : Addr} {o : HO} (hp : H p = none) : WI K T al S (upd H p o) :=
  ⟨w.len, w.nd, fun n ob a h1 h2 => (w.ob n ob a h1 h2).mono (upd_ne fun z => w.there (List.mem_of_getElem? h2) (by rw [z]; exact hp)) (fun _ _ h => sqT_upd hp h) (List.prefix_refl _),
    fun q hq => let ⟨ps, e, t⟩ := w.tab q hq; ⟨ps, by rw [upd_ne (ne_of_none e hp)]; exact e, t⟩⟩
/-- a new object of the store -/
theorem WI.laid (w : WI K T al S H) {p : Addr} {o : HO} {ob : Ob} (hp : H p = none) (r : RO K (al ++ [p]) (upd H p o) p ob) : WI K T (al ++ [p]) (S ++ [ob]) (upd H p o) where
  len := by simp [w.len]
  nd := by
    rw [List.nodup_append]
    exact ⟨w.nd, by simp, fun a ha b hb z => by rw [List.mem_singleton.mp hb] at z; exact w.there ha (by rw [z]; exact hp)⟩
  ob := fun n u a h1 h2 => by
    by_cases hn : n < S.length
    · rw [List.getElem?_append_left hn] at h1
      rw [List.getElem?_append_left (by rw [w.len]; exact hn)] at h2
      exact (w.ob n u a h1 h2).mono (upd_ne fun z => w.there (List.mem_of_getElem? h2) (by rw [z]; exact hp)) (fun _ _ h => sqT_upd hp h) (List.prefix_append _ _)
    · have hl := (List.getElem?_eq_some_iff.mp h1).1
      simp at hl
      have e : n = S.length := by omega
      subst e
      rw [List.getElem?_append_right (Nat.le_refl _), Nat.sub_self] at h1
      have h1 : some ob = some u := h1
      cases h1
      rw [List.getElem?_append_right (by rw [w.len]; exact Nat.le_refl _), w.len, Nat.sub_self] at h2
      have h2 : some p = some a := h2
      cases h2
      exact r
  tab := fun q hq => let ⟨ps, e, t⟩ := w.tab q hq; ⟨ps, by rw [upd_ne (ne_of_none e hp)]; exact e, t⟩
theorem sqT_put (w : WI K T al S H) {n : Nat} {a b : Addr} {o : HO} {xs : List V} (h : al[n]? = some a) (z : SqT K H b xs) : SqT K (upd H a o) b xs := by
  rcases z with z | z
  · have hb : b ≠ a := fun q => w.notup z (by rw [q]; exact List.mem_of_getElem? h)
    rcases z with z | ⟨u, z⟩
    · exact .inl (.inl (by rw [upd_ne hb]; exact z))
    · exact .inl (.inr ⟨u, by rw [upd_ne hb]; exact z⟩)
  · exact .inr z
theorem Ext.put {n : Nat} {a : Addr} {o : HO} (h : al[n]? = some a) : Ext al H al (upd H a o) :=
  ⟨List.prefix_refl _, fun b hb => .inl hb, fun b u e hb _ => by rw [upd_ne (fun z => hb (by rw [z]; exact List.mem_of_getElem? h))]; exact e, fun b ps e hb => ⟨ps, by rw [upd_ne (fun z => hb (by rw [z]; exact List.mem_of_getElem? h))]; exact e⟩⟩
/-- an object of the store is changed -/
theorem WI.put (w : WI K T al S H) {n : Nat} {a : Addr} {o : HO} {ob : Ob} (h : al[n]? = some a) (r : RO K al (upd H a o) a ob) : WI K T al (S.set n ob) (upd H a o) where
  len := by simp [w.len]
  nd := w.nd
  ob := fun m u b h1 h2 => by
    by_cases hm : n = m
    · subst hm
      rw [h] at h2; cases h2
      have hl := (List.getElem?_eq_some_iff.mp h1).1
      rw [List.getElem?_set_self (by simpa using hl)] at h1
      cases h1
      exact r
    · rw [List.getElem?_set_ne hm] at h1
      have hb : b ≠ a := fun z => by
        subst z
        obtain ⟨l1, e1⟩ := List.getElem?_eq_some_iff.mp h
        obtain ⟨l2, e2⟩ := List.getElem?_eq_some_iff.mp h2
        exact hm ((List.getElem_inj w.nd).mp (e1.trans e2.symm))
      exact (w.ob m u b h1 h2).mono (upd_ne hb) (fun _ _ z => sqT_put w h z) (List.prefix_refl _)
  tab := fun q hq => let ⟨ps, e, t⟩ := w.tab q hq; ⟨ps, by rw [upd_ne (fun z => w.notbl e (by rw [z]; exact List.mem_of_getElem? h))]; exact e, t⟩
/-- a list of the store -/
theorem WI.list (w : WI K T al S H) {n : Nat} {xs : List D} (h : listAt S n = some xs) : ∃ a vs, al[n]? = some a ∧ SqL K H a vs ∧ RVs K al H xs vs := by
  unfold listAt at h
  cases e : S[n]? with
  | none => rw [e] at h; cases h
  | some o =>
    rw [e] at h
    obtain ⟨a, h1, r⟩ := w.get e
    cases o with
    | lst ds => cases h; obtain ⟨vs, z, r⟩ := r; exact ⟨a, vs, h1, .inl (.inl z), r⟩
    | frz ds => cases h; obtain ⟨vs, z, r⟩ := r; exact ⟨a, vs, h1, .inl z, r⟩
    | dct kvs => cases h
end
end Mi
set_option autoImplicit true
set_option Elab.async false
set_option linter.all false
set_option maxRecDepth 100000
set_option maxHeartbeats 2000000
/-! MiB2: what a run promises; the operations. -/
namespace Mi
open PySem PySem.Spec PyProof.Rows L2

/-- what is fixed through a law: the written part, the tables of code objects, the defs' names, the classes of the errors, the level of the calls -/
structure Gam where
  K : PySem.W.Frag
  T : List Addr
  nm : List (Str × List Str)
  cls : Nat → Addr
/-- an error that was raised: its class, its own dict -/
def XR (Γ : Gam) (al : List Addr) (H : Hp) (c : Nat) (v : D) (cl : Value) (d : Option Addr) : Prop :=
  cl = .ref (Γ.cls c) ∧ ∃ da w, d = some da ∧ H da = some (.xd [("at", w)]) ∧ RV Γ.K al H v w
/-- what is wanted behind a run -/
def Post {β : Type} (Γ : Gam) (W : XK) (al : List Addr) (H : Hp) (r : Res β) (k : β → List Addr → Store → Hp → Prop) : Prop := match r with
  | .ok b S' => ∀ al' H', Ext al H al' H' → WI Γ.K Γ.T al' S' H' → k b al' S' H'
  | .ex c v S' => ∀ al' H' cl d, Ext al H al' H' → WI Γ.K Γ.T al' S' H' → XR Γ al' H' c v cl d → W cl d H'
  | .bad => False
section
variable {β γ : Type} {Γ : Gam} {W : XK} {al al' : List Addr} {H H' : Hp} {S S' : Store}
theorem Post.bind {r : Res β} {f : β → M γ} {k : γ → List Addr → Store → Hp → Prop} (h : Post Γ W al H (r.bind f) k) :
    Post Γ W al H r fun b al' S' H' => Post Γ W al' H' (f b S') k := by
  cases r with
  | ok b S' =>
    intro al' H' x w
    have h : Post Γ W al H (f b S') k := h
    show Post Γ W al' H' (f b S') k
    revert h
    cases f b S' with
    | ok c S'' => intro h al'' H'' y w'; exact h al'' H'' (x.trans y) w'
    | ex c v S'' => intro h al'' H'' cl d y w' z; exact h al'' H'' cl d (x.trans y) w' z
    | bad => exact fun h => h
  | ex c v S' => exact h
  | bad => exact h
theorem Post.imp {r : Res β} {k k' : β → List Addr → Store → Hp → Prop} (h : Post Γ W al H r k) (i : ∀ b al' S' H', Ext al H al' H' → WI Γ.K Γ.T al' S' H' → k b al' S' H' → k' b al' S' H') : Post Γ W al H r k' := by
  cases r with
  | ok b S' => exact fun al' H' x w => i _ _ _ _ x w (h al' H' x w)
  | ex c v S' => exact h
  | bad => exact h
theorem Post.ok {b : β} {k : β → List Addr → Store → Hp → Prop} (w : WI Γ.K Γ.T al S H) (h : Post Γ W al H (.ok b S) k) : k b al S H := h al H .refl w
theorem Post.move {r : Res β} {k : β → List Addr → Store → Hp → Prop} (x : Ext al H al' H') (h : Post Γ W al H r k) : Post Γ W al' H' r k := by
  cases r with
  | ok c S'' => intro al'' H'' y w'; exact h al'' H'' (x.trans y) w'
  | ex c v S'' => intro al'' H'' cl d y w' z; exact h al'' H'' cl d (x.trans y) w' z
  | bad => exact h
end
/-- what is wanted of a value -/
def KV' (Γ : Gam) (Q : VK) : D → List Addr → Store → Hp → Prop := fun d al' _ H' => ∀ v, RV Γ.K al' H' d v → Q v H'
def KL (Γ : Gam) (Q : List V → Hp → Prop) : List D → List Addr → Store → Hp → Prop := fun ds al' _ H' => ∀ vs, RVs Γ.K al' H' ds vs → Q vs H'
/-- an expression's reading by its meaning -/
def T (Γ : Gam) (Φ : Orc) (W : WX) (m : E) : TE := fun σ H Q => ∃ al ρ S, WI Γ.K Γ.T al S H ∧ RE Γ.K al H ρ σ ∧ Post Γ (fun c d H => W c d σ H) al H (ev Φ m ρ S) (KV' Γ Q)
def TL (Γ : Gam) (Φ : Orc) (W : WX) (m : E) : TA := fun σ H Q => ∃ al ρ S, WI Γ.K Γ.T al S H ∧ RE Γ.K al H ρ σ ∧ Post Γ (fun c d H => W c d σ H) al H (evs Φ m ρ S) (KL Γ Q)
def TTt (Γ : Gam) (Φ : Orc) (W : WX) (m : E) : TT := fun σ H Q => ∃ al ρ S, WI Γ.K Γ.T al S H ∧ RE Γ.K al H ρ σ ∧ Post Γ (fun c d H => W c d σ H) al H (evT Φ m ρ S) (fun b _ _ H' => Q b H')
def TTAll (Γ : Gam) (Φ : Orc) (W : WX) (m : E) : TT := fun σ H Q => ∃ al ρ S, WI Γ.K Γ.T al S H ∧ RE Γ.K al H ρ σ ∧ Post Γ (fun c d H => W c d σ H) al H (evAll Φ m ρ S) (fun b _ _ H' => Q b H')
def TTAny (Γ : Gam) (Φ : Orc) (W : WX) (m : E) : TT := fun σ H Q => ∃ al ρ S, WI Γ.K Γ.T al S H ∧ RE Γ.K al H ρ σ ∧ Post Γ (fun c d H => W c d σ H) al H (evAny Φ m ρ S) (fun b _ _ H' => Q b H')
/-- a def's promise by its meaning -/
def Sp' (Γ : Gam) (Φ : Orc) (np : Nat) (i : Nat) : Sp := fun vs H Q E => vs.length = np ∧ ∃ al S ds, WI Γ.K Γ.T al S H ∧ RVs Γ.K al H ds vs ∧ Post Γ E al H (Φ i ds S) (KV' Γ Q)
theorem _root_.L2.PE.imp {X : Cx} {e : Expr} {t t' : TE} (h : PE X e t) (i : ∀ σ H Q, t' σ H Q → t σ H Q) : PE X e t' := ⟨fun pins s σ H Q I w => h.run pins s σ H Q I (i _ _ _ w)⟩
theorem _root_.L2.PT.imp {X : Cx} {e : Expr} {t t' : TT} (h : PT X e t) (i : ∀ σ H Q, t' σ H Q → t σ H Q) : PT X e t' := ⟨fun pins s σ H Q I w => h.run pins s σ H Q I (i _ _ _ w)⟩
theorem _root_.L2.PW.imp {X : Cx} {e : Expr} {t t' : TT} (h : PW X e t) (i : ∀ σ H Q, t' σ H Q → t σ H Q) : PW X e t' := ⟨fun wh pins s σ H Q I w => h.run wh pins s σ H Q I (i _ _ _ w)⟩
theorem _root_.L2.PA.imp {X : Cx} {e : List Expr} {t t' : TA} (h : PA X e t) (i : ∀ σ H Q, t' σ H Q → t σ H Q) : PA X e t' := ⟨fun pos pins s σ H Q I w => h.run pos pins s σ H Q I (i _ _ _ w)⟩

/-! ### operations by values -/
/-- a two-place operation's reading -/
def rB (Γ : Gam) (f : D → D → M D) : R2 := fun x y H Q => ∃ W al S d e, WI Γ.K Γ.T al S H ∧ RV Γ.K al H d x ∧ RV Γ.K al H e y ∧ Post Γ W al H (f d e S) (KV' Γ Q)
def rC (Γ : Gam) (f : List D → M D) : List V → Hp → VK → Prop := fun vs H Q => ∃ W al S ds, WI Γ.K Γ.T al S H ∧ RVs Γ.K al H ds vs ∧ Post Γ W al H (f ds S) (KV' Γ Q)
section
variable {X : Cx} {Γ : Gam} {W : XK} {al : List Addr} {S : Store} {H : Hp}
theorem OpR.imp {f : Value → Value → Sem Value} {r r' : R2} (h : OpR X f r) (i : ∀ x y H Q, r' x y H Q → r x y H Q) : OpR X f r' := fun pins s σ H x y v u Q I rx ry q => h pins s σ H x y v u Q I rx ry (i _ _ _ _ q)
/-- the cases of a reading -/
theorem OpR.cases {f : Value → Value → Sem Value} {r : R2} (h : ∀ x y H Q, r x y H Q → ∃ r', OpR X f r' ∧ r' x y H Q) : OpR X f r := fun pins s σ H x y v u Q I rx ry q => by
  obtain ⟨r', h', q'⟩ := h x y H Q q
  exact h' pins s σ H x y v u Q I rx ry q'
theorem CallR.cases {f : Value} {r : List V → Hp → VK → Prop} (h : ∀ xs H Q, r xs H Q → ∃ r', CallR X f r' ∧ r' xs H Q) : CallR X f r := fun pins s σ H xs us Q I rx q => by
  obtain ⟨r', h', q'⟩ := h xs H Q q
  exact h' pins s σ H xs us Q I rx q'
/-- a result without a new object -/
theorem Post.val {d : D} {Q : VK} {v : V} (w : WI Γ.K Γ.T al S H) (h : Post Γ W al H (.ok d S) (KV' Γ Q)) (r : RV Γ.K al H d v) : Q v H := h al H .refl w v r
/-- a new tuple -/
theorem Post.tup {ds : List D} {Q : VK} {vs : List V} {p : Addr} (w : WI Γ.K Γ.T al S H) (h : Post Γ W al H (.ok (.tup ds) S) (KV' Γ Q)) (r : RVs Γ.K al H ds vs) (hp : H p = none) : Q (.ref p) (upd H p (.tup vs)) :=
  h al _ (.tup hp) (w.tup hp) _ (.tup (.of upd_same) (r.mono (fun _ _ h => sqT_upd hp h) (List.prefix_refl _)))
/-- a new list -/
theorem Post.lst {ds : List D} {Q : VK} {vs : List V} {p : Addr} (w : WI Γ.K Γ.T al S H) (h : Post Γ W al H (.ok (.ref S.length) (S ++ [.lst ds])) (KV' Γ Q)) (r : RVs Γ.K al H ds vs) (hp : H p = none) : Q (.ref p) (upd H p (.lst vs)) :=
  h (al ++ [p]) _ (.new1 hp) (w.laid hp ⟨vs, upd_same, r.mono (fun _ _ h => sqT_upd hp h) (List.prefix_append _ _)⟩) _
    (.ref (by rw [List.getElem?_append_right (by rw [w.len]; exact Nat.le_refl _), w.len, Nat.sub_self]; rfl))
end
end Mi
set_option autoImplicit true
set_option Elab.async false
set_option linter.all false
set_option maxRecDepth 100000
set_option maxHeartbeats 2000000
/-! MiB3: the operations of the small language over the layer's rules. -/
namespace Mi
open PySem PySem.Spec PyProof.Rows L2
section
variable {X : Cx} {Γ : Gam} {W : XK} {al : List Addr} {S : Store} {H : Hp}
theorem WI.lstAt (w : WI Γ.K Γ.T al S H) {n : Nat} {xs : List D} {v : V} (h : S[n]? = some (.lst xs)) (r : RV Γ.K al H (.ref n) v) : ∃ a vs, v = .ref a ∧ al[n]? = some a ∧ H a = some (.lst vs) ∧ RVs Γ.K al H xs vs := by
  obtain ⟨a, e, z⟩ := w.get h
  obtain ⟨vs, z, q⟩ := z
  cases r with
  | ref e' => rw [e] at e'; cases e'; exact ⟨_, vs, rfl, e, z, q⟩
theorem WI.seqAt (w : WI Γ.K Γ.T al S H) {n : Nat} {xs : List D} {v : V} (h : listAt S n = some xs) (r : RV Γ.K al H (.ref n) v) : ∃ a vs, v = .ref a ∧ SqL Γ.K H a vs ∧ RVs Γ.K al H xs vs := by
  obtain ⟨a, vs, e, z, q⟩ := w.list h
  cases r with
  | ref e' => rw [e] at e'; cases e'; exact ⟨_, vs, rfl, z, q⟩
theorem op_addD (hK : X.K = Γ.K) : OpR X (binaryOp .Add) (rB Γ (binD .add)) := by
  refine OpR.cases fun x y H Q ⟨W, al, S, d, e, w, rd, re, q⟩ => ?_
  cases d with
  | int i =>
    cases e with
    | int j => cases rd; cases re; exact ⟨_, op_add, _, _, rfl, rfl, q.val w (.int _)⟩
    | _ => exact q.elim
  | tup xs =>
    cases e with
    | tup ys =>
      cases rd with | tup h1 r1 =>
      cases re with | tup h2 r2 =>
      have q : Post Γ W al H (if xs.length + ys.length ≤ sizeLine then .ok (.tup (xs ++ ys)) S else .bad) (KV' Γ Q) := q
      by_cases hz : xs.length + ys.length ≤ sizeLine
      · rw [if_pos hz] at q
        have hc := @op_catA X
        rw [hK] at hc
        refine ⟨_, hc, _, _, _, _, rfl, rfl, h1, h2, by rw [← r1.length, ← r2.length]; exact hz, fun e1 => ?_, fun e1 e2 => ?_, fun e1 e2 p hp => q.tup w (r1.append r2) hp⟩
        · subst e1; cases r1; exact q.val w (.tup h2 r2)
        · subst e2; cases r2; rw [List.append_nil] at q; exact q.val w (.tup h1 r1)
      · rw [if_neg hz] at q; exact q.elim
    | _ => exact q.elim
  | ref n =>
    cases e with
    | ref m =>
      have q : Post Γ W al H (match S[n]?, S[m]? with
        | some (.lst xs), some (.lst ys) => if xs.length + ys.length ≤ sizeLine then .ok (.ref S.length) (S ++ [.lst (xs ++ ys)]) else .bad
        | _, _ => .bad) (KV' Γ Q) := q
      split at q
      · rename_i xs ys e1 e2
        obtain ⟨a, vs, rfl, _, h1, r1⟩ := w.lstAt e1 rd
        obtain ⟨b, ws, rfl, _, h2, r2⟩ := w.lstAt e2 re
        by_cases hz : xs.length + ys.length ≤ sizeLine
        · rw [if_pos hz] at q
          exact ⟨_, op_cat, _, _, _, _, rfl, rfl, h1, h2, by rw [← r1.length, ← r2.length]; exact hz, fun p hp => q.lst w (r1.append r2) hp⟩
        · rw [if_neg hz] at q; exact q.elim
      · exact q.elim
    | _ => exact q.elim
  | _ => cases e <;> exact q.elim
theorem op_intD {op : Operator} {o : Bo} {C : Int → Int → Prop} {g : Int → Int → Int} (h : OpR X (binaryOp op) (rI C fun i j => .int (g i j)))
    (hb : ∀ d e S, binD o d e S ≠ .bad → ∃ i j, d = .int i ∧ e = .int j ∧ C i j ∧ binD o d e S = .ok (.int (g i j)) S) : OpR X (binaryOp op) (rB Γ (binD o)) := by
  refine OpR.cases fun x y H Q ⟨W, al, S, d, e, w, rd, re, q⟩ => ?_
  have hn : binD o d e S ≠ .bad := fun z => by rw [z] at q; exact q
  obtain ⟨i, j, rfl, rfl, c, z⟩ := hb d e S hn
  rw [z] at q
  cases rd; cases re
  exact ⟨_, h, _, _, rfl, rfl, c, q.val w (.int _)⟩
theorem op_subD : OpR X (binaryOp .Sub) (rB Γ (binD .sub)) := op_intD (C := fun _ _ => True) (g := fun i j => i - j) (OpR.imp op_sub fun _ _ _ _ ⟨i, j, a, b, _, q⟩ => ⟨i, j, a, b, q⟩) fun d e S h => by
  cases d <;> cases e <;> first | exact absurd rfl h | exact ⟨_, _, rfl, rfl, trivial, rfl⟩
theorem op_mulD : OpR X (binaryOp .Mult) (rB Γ (binD .mul)) := op_intD op_mul fun d e S h => by
  cases d <;> cases e <;> first | exact absurd rfl h | skip
  rename_i i j
  have z : binD .mul (.int i) (.int j) S = if big64 i || big64 j then .ok (.int (i * j)) S else .bad := rfl
  by_cases hc : (big64 i || big64 j) = true
  · rw [z, if_pos hc]
    refine ⟨i, j, rfl, rfl, ?_, rfl⟩
    rcases Bool.or_eq_true_iff.mp hc with c | c
    · exact .inl (of_decide_eq_true c)
    · exact .inr (of_decide_eq_true c)
  · rw [z, if_neg hc] at h; exact absurd rfl h
theorem op_modD : OpR X (binaryOp .Mod) (rB Γ (binD .mod)) := by
  refine op_intD (C := fun _ j => 0 < j) (g := fun i j => i % j) (OpR.imp op_modN fun x y H Q ⟨i, j, a, b, c, q⟩ => ⟨i, j, a, b, Int.ne_of_gt c, ?_⟩) fun d e S h => ?_
  · show Q (.int (i.fmod j)) H
    rw [Int.fmod_eq_emod_of_nonneg _ (Int.le_of_lt c)]; exact q
  · cases d <;> cases e <;> first | exact absurd rfl h | skip
    rename_i i j
    have z : binD .mod (.int i) (.int j) S = if 0 < j then .ok (.int (i % j)) S else .bad := rfl
    by_cases hc : 0 < j
    · rw [z, if_pos hc]; exact ⟨i, j, rfl, rfl, hc, rfl⟩
    · rw [z, if_neg hc] at h; exact absurd rfl h
theorem op_fdivD : OpR X (binaryOp .FloorDiv) (rB Γ (binD .fdiv)) := by
  refine op_intD (C := fun _ j => 0 < j ∧ j < 1073741824) (g := fun i j => i / j) (OpR.imp op_fdivN fun x y H Q ⟨i, j, a, b, c, q⟩ => ⟨i, j, a, b, ⟨Int.ne_of_gt c.1, by have := c.2; have := c.1; omega⟩, ?_⟩) fun d e S h => ?_
  · show Q (.int (i.fdiv j)) H
    rw [Int.fdiv_eq_ediv_of_nonneg _ (Int.le_of_lt c.1)]; exact q
  · cases d <;> cases e <;> first | exact absurd rfl h | skip
    rename_i i j
    have z : binD .fdiv (.int i) (.int j) S = if 0 < j ∧ j < 1073741824 then .ok (.int (i / j)) S else .bad := rfl
    by_cases hc : 0 < j ∧ j < 1073741824
    · rw [z, if_pos hc]; exact ⟨i, j, rfl, rfl, hc, rfl⟩
    · rw [z, if_neg hc] at h; exact absurd rfl h
theorem op_powD : OpR X (binaryOp .Pow) (rB Γ (binD .pow)) := by
  refine op_intD (C := fun i j => 0 ≤ j ∧ j ≤ 1000000 ∧ i.natAbs < 2 ^ 64) (g := fun i j => i ^ j.toNat) op_pow fun d e S h => ?_
  cases d <;> cases e <;> first | exact absurd rfl h | skip
  rename_i i j
  have z : binD .pow (.int i) (.int j) S = if 0 ≤ j ∧ j ≤ 1000000 ∧ i.natAbs < 2 ^ 64 then .ok (.int (i ^ j.toNat)) S else .bad := rfl
  by_cases hc : 0 ≤ j ∧ j ≤ 1000000 ∧ i.natAbs < 2 ^ 64
  · rw [z, if_pos hc]; exact ⟨i, j, rfl, rfl, hc, rfl⟩
  · rw [z, if_neg hc] at h; exact absurd rfl h
def opOf : Bo → Operator
  | .add => .Add | .sub => .Sub | .mul => .Mult | .mod => .Mod | .fdiv => .FloorDiv | .pow => .Pow
theorem op_binD (hK : X.K = Γ.K) (o : Bo) : OpR X (binaryOp (opOf o)) (rB Γ (binD o)) := by
  cases o
  · exact op_addD hK
  · exact op_subD
  · exact op_mulD
  · exact op_modD
  · exact op_fdivD
  · exact op_powD

/-! ### comparisons -/
mutual
theorem RV.dp {K : PySem.W.Frag} : ∀ {d : D} {v : V}, RV K al H d v → (py d).canLay0 = true → Dp K H v (py d)
  | _, _, .non, _ => .non
  | _, _, .bl b, _ => .bl b
  | _, _, .int i, _ => .int i
  | _, _, .str x, _ => .str x
  | _, _, .tup h r, z => .tup h (RVs.dp r (by simpa [py, PyData.canLay0] using z))
  | _, _, .ref h, z => by simp [py, PyData.canLay0] at z
theorem RVs.dp {K : PySem.W.Frag} : ∀ {ds : List D} {vs : List V}, RVs K al H ds vs → PyData.canLayAll0 (pys ds) = true → DpAll K H vs (pys ds)
  | _, _, .nil, _ => .nil
  | _, _, .cons r t, z => by
    have z : ((py _).canLay0 && PyData.canLayAll0 (pys _)) = true := z
    rw [Bool.and_eq_true] at z
    exact .cons (RV.dp r z.1) (RVs.dp t z.2)
end
theorem shaped_list {ds : List PyData} (h : SeqAt.shaped (.tuple ds) = true) : SeqAt.shaped (.list ds) = true := by
  simpa [SeqAt.shaped, PyData.canLay0, PyData.depth] using h
theorem pys_map (ds : List D) : pys ds = ds.map py := by
  induction ds with
  | nil => rfl
  | cons d ds ih => simp [pys, ih]
/-- what equality asks -/
theorem peq_dp {K : PySem.W.Frag} {Ta : List Addr} (w : WI K Ta al S H) {d e : D} {x y : V} {b : Bool} (rd : RV K al H d x) (re : RV K al H e y) (h : peq S d e = some b) :
    ∃ p q, Dp K H x p ∧ Dp K H y q ∧ SeqAt.shaped p = true ∧ SeqAt.shaped q = true ∧ PyData.eqv p q = b := by
  have gen : (if fine d && fine e then some (PyData.eqv (py d) (py e)) else none) = some b → ∃ p q, Dp K H x p ∧ Dp K H y q ∧ SeqAt.shaped p = true ∧ SeqAt.shaped q = true ∧ PyData.eqv p q = b := fun h => by
    split at h
    · rename_i hc
      rw [Bool.and_eq_true] at hc
      cases h
      exact ⟨_, _, rd.dp (SeqAt.canLay_of_shaped hc.1), re.dp (SeqAt.canLay_of_shaped hc.2), hc.1, hc.2, rfl⟩
    · cases h
  cases d with
  | ref n =>
    cases e with
    | ref m =>
      have h : (match listAt S n, listAt S m with
        | some xs, some ys => if fines xs && fines ys then some (PyData.eqvAll (pys xs) (pys ys)) else none
        | _, _ => none) = some b := h
      split at h
      · rename_i xs ys e1 e2
        split at h
        · rename_i hc
          rw [Bool.and_eq_true] at hc
          cases h
          obtain ⟨a, vs, h1, s1, r1⟩ := w.list e1
          obtain ⟨a', ws, h2, s2, r2⟩ := w.list e2
          cases rd with | ref z1 =>
          cases re with | ref z2 =>
          rw [h1] at z1; cases z1
          rw [h2] at z2; cases z2
          have c1 : PyData.canLayAll0 (pys xs) = true := by simpa [PyData.canLay0] using SeqAt.canLay_of_shaped hc.1
          have c2 : PyData.canLayAll0 (pys ys) = true := by simpa [PyData.canLay0] using SeqAt.canLay_of_shaped hc.2
          exact ⟨_, _, .lst s1 (r1.dp c1), .lst s2 (r2.dp c2), shaped_list hc.1, shaped_list hc.2, rfl⟩
        · cases h
      · cases h
    | _ => exact gen h
  | _ => cases e <;> exact gen h
/-- a comparison's reading -/
def rCmp (Γ : Gam) (o : Co) : R2 := fun x y H Q => ∃ al S d e b, WI Γ.K Γ.T al S H ∧ RV Γ.K al H d x ∧ RV Γ.K al H e y ∧ cmpD o d e S = some b ∧ Q (.bl b) H
def coOf : Co → CmpOp
  | .eq => .Eq | .ne => .NotEq | .lt => .Lt | .le => .LtE | .gt => .Gt | .ge => .GtE | .is => .Is | .isnot => .IsNot | .inn => .In | .notin => .NotIn
theorem plt_op (hK : X.K = Γ.K) (hu : X.A.units < cLine) {al : List Addr} {H : Hp} {d e : D} {x y : V} {b : Bool} {Q : VK} (rd : RV Γ.K al H d x) (re : RV Γ.K al H e y) (h : plt d e = some b) (q : Q (.bl b) H) : ∃ r', OpR X (compareOp .Lt) r' ∧ r' x y H Q := by
  cases d with
  | int i =>
    cases e with
    | int j => cases rd; cases re; cases h; exact ⟨_, op_lt, _, _, rfl, rfl, q⟩
    | _ => cases h
  | tup xs =>
    cases e with
    | tup ys =>
      have h : (match dInts xs, dInts ys with | some is, some js => some (HT.lexLt is js) | _, _ => none) = some b := h
      split at h
      · rename_i is js e1 e2
        cases h
        cases rd with | tup h1 r1 =>
        cases re with | tup h2 r2 =>
        have ho := op_ltT (X := X) hu
        rw [hK] at ho
        exact ⟨_, ho, _, _, _, _, rfl, rfl, by rw [← r1.ints e1]; exact h1, by rw [← r2.ints e2]; exact h2, q⟩
      · cases h
    | _ => cases h
  | _ => cases e <;> cases h
theorem is_op {al : List Addr} {H : Hp} {d e : D} {x y : V} {b : Bool} {K : PySem.W.Frag} (rd : RV K al H d x) (re : RV K al H e y) (h : isD d e = some b) :
    (∃ a c, x = .bl a ∧ y = .bl c ∧ b = decide (a = c)) ∨ (y = .non ∧ b = decide (x = .non)) := by
  cases d <;> cases e <;> cases h <;> cases rd <;> cases re
  · exact .inr ⟨rfl, rfl⟩
  · exact .inr ⟨rfl, rfl⟩
  · exact .inl ⟨_, _, rfl, rfl, by rw [Bool.beq_eq_decide_eq]⟩
  · exact .inr ⟨rfl, rfl⟩
  · exact .inr ⟨rfl, rfl⟩
  · exact .inr ⟨rfl, rfl⟩
  · exact .inr ⟨rfl, rfl⟩
theorem op_inTD (hu : X.A.units + 65 < cLine) : OpR X (compareOp .In) (fun x y H Q => ∃ d ds, Dp X.K H x d ∧ Dp X.K H y (.tuple ds) ∧ SeqAt.shaped d = true ∧ SeqAt.shaped (.tuple ds) = true ∧ Q (.bl (ds.any fun z => PyData.eqv z d)) H) := by
  intro pins s σ H x y v u Q I rx ry h
  obtain ⟨d, ds, hd, he, sd, se, q⟩ := h
  obtain ⟨as, r1⟩ := Dp.reads I d x v hd rx
  obtain ⟨bs, r2⟩ := Dp.reads I (.tuple ds) y u he ry
  exact SeqAt.in_tuple_reads r2 r1 (SeqAt.canLay_of_shaped se) (SeqAt.canLay_of_shaped sd) (room_in_shaped sd hu) ⟨.bl _, H, I, rfl, q⟩
theorem op_notInTD (hu : X.A.units + 65 < cLine) : OpR X (compareOp .NotIn) (fun x y H Q => ∃ d ds, Dp X.K H x d ∧ Dp X.K H y (.tuple ds) ∧ SeqAt.shaped d = true ∧ SeqAt.shaped (.tuple ds) = true ∧ Q (.bl (!ds.any fun z => PyData.eqv z d)) H) := by
  intro pins s σ H x y v u Q I rx ry h
  obtain ⟨d, ds, hd, he, sd, se, q⟩ := h
  obtain ⟨as, r1⟩ := Dp.reads I d x v hd rx
  obtain ⟨bs, r2⟩ := Dp.reads I (.tuple ds) y u he ry
  exact SeqAt.notIn_tuple_reads r2 r1 (SeqAt.canLay_of_shaped se) (SeqAt.canLay_of_shaped sd) (room_in_shaped sd hu) ⟨.bl _, H, I, rfl, q⟩
/-- what «in» asks -/
theorem in_dp {K : PySem.W.Frag} {Ta : List Addr} (w : WI K Ta al S H) {d e : D} {xs : List D} {x y : V} {b : Bool} (rd : RV K al H d x) (re : RV K al H e y) (hs : seqOf S e = some xs) (h : inD d xs = some b) :
    Dp K H x (py d) ∧ SeqAt.shaped (py d) = true ∧ SeqAt.shaped (.tuple (pys xs)) = true ∧ b = ((pys xs).any fun y => PyData.eqv y (py d)) ∧ (Dp K H y (.list (pys xs)) ∨ Dp K H y (.tuple (pys xs))) := by
  unfold inD at h
  split at h
  · rename_i hc
    rw [Bool.and_eq_true] at hc
    cases h
    have c2 : PyData.canLayAll0 (pys xs) = true := by simpa [PyData.canLay0] using SeqAt.canLay_of_shaped hc.2
    refine ⟨rd.dp (SeqAt.canLay_of_shaped hc.1), hc.1, hc.2, rfl, ?_⟩
    cases e with
    | tup ys =>
      cases hs
      cases re with | tup h2 r2 => exact .inr (.tup h2 (r2.dp c2))
    | ref n =>
      obtain ⟨a, vs, h1, s1, r1⟩ := w.list (n := n) (xs := xs) hs
      cases re with | ref z => rw [h1] at z; cases z; exact .inl (.lst s1 (r1.dp c2))
    | _ => cases hs
  · cases h
theorem op_cmpD (hK : X.K = Γ.K) (hu : X.A.units + 65 < cLine) (o : Co) : OpR X (compareOp (coOf o)) (rCmp Γ o) := by
  refine OpR.cases fun x y H Q ⟨al, S, d, e, b, w, rd, re, h, q⟩ => ?_
  cases o with
  | eq =>
    obtain ⟨p, p', h1, h2, h3, h4, rfl⟩ := peq_dp w rd re h
    have ho := op_eqD (X := X) (by omega)
    rw [hK] at ho
    exact ⟨_, ho, p, p', h1, h2, h3, h4, q⟩
  | ne =>
    have h : (peq S d e).map (!·) = some b := h
    cases z : peq S d e with
    | none => rw [z] at h; cases h
    | some c =>
      rw [z] at h; cases h
      obtain ⟨p, p', h1, h2, h3, h4, rfl⟩ := peq_dp w rd re z
      have ho := op_neD (X := X) (by omega)
      rw [hK] at ho
      exact ⟨_, ho, p, p', h1, h2, h3, h4, q⟩
  | lt => exact plt_op hK (by omega) rd re h q
  | gt =>
    cases d <;> cases e <;> cases h
    cases rd; cases re
    exact ⟨_, op_gt, _, _, rfl, rfl, q⟩
  | le =>
    cases d <;> cases e <;> cases h
    cases rd; cases re
    exact ⟨_, op_le, _, _, rfl, rfl, q⟩
  | ge =>
    cases d <;> cases e <;> cases h
    cases rd; cases re
    exact ⟨_, op_ge, _, _, rfl, rfl, q⟩
  | is =>
    rcases is_op rd re h with ⟨a, c, rfl, rfl, rfl⟩ | ⟨rfl, rfl⟩
    · exact ⟨_, op_isBl, _, _, rfl, rfl, q⟩
    · exact ⟨_, op_isN, rfl, q⟩
  | isnot =>
    have h : (isD d e).map (!·) = some b := h
    cases z : isD d e with
    | none => rw [z] at h; cases h
    | some c =>
      rw [z] at h; cases h
      rcases is_op rd re z with ⟨a, c, rfl, rfl, rfl⟩ | ⟨rfl, rfl⟩
      · exact ⟨_, op_notBl, _, _, rfl, rfl, q⟩
      · exact ⟨_, op_notN, rfl, q⟩
  | inn =>
    have h : (match seqOf S e with | some xs => inD d xs | none => none) = some b := h
    split at h
    · rename_i xs hs
      obtain ⟨h1, h2, h3, rfl, h4⟩ := in_dp w rd re hs h
      rw [← hK] at h1 h4
      rcases h4 with h4 | h4
      · exact ⟨_, op_inD hu, _, _, h1, h4, h2, shaped_list h3, q⟩
      · exact ⟨_, op_inTD hu, _, _, h1, h4, h2, h3, q⟩
    · cases h
  | notin =>
    have h : (match seqOf S e with | some xs => (inD d xs).map (!·) | none => none) = some b := h
    split at h
    · rename_i xs hs
      cases z : inD d xs with
      | none => rw [z] at h; cases h
      | some c =>
        rw [z] at h; cases h
        obtain ⟨h1, h2, h3, rfl, h4⟩ := in_dp w rd re hs z
        rw [← hK] at h1 h4
        rcases h4 with h4 | h4
        · exact ⟨_, op_notInD hu, _, _, h1, h4, h2, shaped_list h3, q⟩
        · exact ⟨_, op_notInTD hu, _, _, h1, h4, h2, h3, q⟩
    · cases h

/-! ### places, slices -/
def rIxD (Γ : Gam) : R2 := fun x y H Q => ∃ al S d e r, WI Γ.K Γ.T al S H ∧ RV Γ.K al H d x ∧ RV Γ.K al H e y ∧ subD d e S = some r ∧ ∀ v, RV Γ.K al H r v → Q v H
theorem atI_rv {K : PySem.W.Frag} {ds : List D} {vs : List V} (r : RVs K al H ds vs) {k : Int} {d : D} (h : atI ds k = some d) : ∃ v, atI vs k = some v ∧ RV K al H d v := by
  unfold atI at h ⊢
  rw [← r.length]
  cases e : ixN ds.length k with
  | none => rw [e] at h; cases h
  | some j => rw [e] at h; exact r.get h
theorem valV_rv {K : PySem.W.Frag} {al : List Addr} {H : Hp} {k : Key} {r : D} : ∀ {kvs : List (Key × D)} {kws : List (Key × V)}, kws.map (·.1) = kvs.map (·.1) → RVs K al H (kvs.map (·.2)) (kws.map (·.2)) → dvl kvs k = some r → ∃ z, valV kws k = some z ∧ RV K al H r z
  | [], _, _, _, h => by cases h
  | (k1, d1) :: kvs, [], h1, _, _ => by cases h1
  | (k1, d1) :: kvs, (k2, v2) :: kws, h1, h2, h => by
    simp only [List.map_cons, List.cons.injEq] at h1 h2
    obtain ⟨rfl, h1⟩ := h1
    cases h2 with | cons q h2 =>
    have h : (if k2 = k then some d1 else dvl kvs k) = some r := h
    by_cases e : k2 = k
    · rw [if_pos e] at h; cases h
      exact ⟨v2, by unfold valV; rw [List.find?_cons_of_pos (by simpa using e)]; rfl, q⟩
    · rw [if_neg e] at h
      obtain ⟨z, e1, e2⟩ := valV_rv h1 h2 h
      refine ⟨z, ?_, e2⟩
      unfold valV
      rw [List.find?_cons_of_neg (by simpa using e)]
      exact e1
theorem ix_subD (hK : X.K = Γ.K) (hu : X.A.units + 1 < cLine) : IxR X (rIxD Γ) := by
  intro value slice pins s σ H x y v u Q I rx ry h hs
  obtain ⟨al, S, d, e, r, w, rd, re, h, q⟩ := h
  cases e with
  | str z =>
    cases re
    cases d with
    | ref n =>
      have h : (match S[n]? with | some (.dct kvs) => dvl kvs (.inr z) | _ => none) = some r := h
      split at h
      · rename_i kvs hx
        obtain ⟨a, e1, kws, e2, e3, e4⟩ := w.get hx
        cases rd with | ref e5 =>
        rw [e1] at e5; cases e5
        obtain ⟨z', e6, e7⟩ := valV_rv e3 e4 h
        cases rx
        have g : DGet H a (.str z) (some z') := by rw [← e6]; exact .inl ⟨kws, .inr z, .inl e2, rfl, rfl⟩
        exact tail_any (dict_typeIs I g) PySem.F.slot_dict_getitem.lookup (d_getItem hu I g ry fun w' s' I' rw' => ⟨z', H, I', rw', q z' e7⟩) hs
      · cases h
    | _ => cases h
  | int k =>
    refine ix_seq value slice pins s σ H x y v u Q I rx ry ?_ hs
    cases re
    have h : (match seqOf S d with | some xs => atI xs k | none => none) = some r := h
    cases d with
    | tup xs =>
      cases rd with | tup h1 r1 =>
      obtain ⟨z, e, rz⟩ := atI_rv r1 h
      exact .inr (.inl ⟨_, _, k, z, rfl, rfl, by rw [hK]; exact h1, e, q z rz⟩)
    | ref n =>
      have h : (match listAt S n with | some xs => atI xs k | none => none) = some r := h
      split at h
      · rename_i xs hx
        obtain ⟨a, vs, rfl, s1, r1⟩ := w.seqAt hx rd
        obtain ⟨z, e, rz⟩ := atI_rv r1 h
        exact .inl ⟨_, _, k, z, rfl, rfl, by rw [hK]; exact s1, e, q z rz⟩
      · cases h
    | _ => cases h
  | _ => cases h
def ROp (Γ : Gam) (al : List Addr) (H : Hp) : Option D → Option Int → Prop
  | none, o => o = none
  | some d, o => ∃ i, d = .int i ∧ o = some i
def rSlD (Γ : Gam) : V → Option Int → Option Int → Hp → VK → Prop := fun x lo hi H Q => ∃ W al S d, WI Γ.K Γ.T al S H ∧ RV Γ.K al H d x ∧ Post Γ W al H (slcD d lo hi S) (KV' Γ Q)
theorem RVs.cut {K : PySem.W.Frag} {ds : List D} {vs : List V} (r : RVs K al H ds vs) (lo hi : Option Int) : RVs K al H (Mi.cut ds lo hi) (cutV vs lo hi) := by
  unfold Mi.cut cutV
  rw [r.length]
  exact (r.drop _).take _
theorem sIx_all {α : Type} {xs : List α} {lo hi : Option Int} (h : HT.sIx xs.length 0 lo = 0 ∧ HT.sIx xs.length xs.length hi = xs.length) : Mi.cut xs lo hi = xs := by
  unfold Mi.cut
  rw [h.1, h.2]
  simp
theorem sl_D (hK : X.K = Γ.K) : SlR X (rSlD Γ) := by
  intro pins s σ H x v vl vu lo hi sl Q I rx hs pl pu h
  obtain ⟨W, al, S, d, w, rd, q⟩ := h
  cases d with
  | tup xs =>
    cases rd with | tup h1 r1 =>
    refine sl_tupA pins s σ H _ v vl vu lo hi sl Q I rx hs pl pu ⟨_, _, rfl, by rw [hK]; exact h1, fun e => ?_, fun e p hp => q.tup w (r1.cut lo hi) hp⟩
    rw [← r1.length] at e
    have q : Post Γ W al H (.ok (.tup (cut xs lo hi)) S) (KV' Γ Q) := q
    rw [sIx_all e] at q
    exact q.val w (.tup h1 r1)
  | ref n =>
    have q : Post Γ W al H (match listAt S n with | some xs => .ok (.ref S.length) (S ++ [.lst (cut xs lo hi)]) | none => .bad) (KV' Γ Q) := q
    split at q
    · rename_i xs hx
      obtain ⟨a, vs, rfl, s1, r1⟩ := w.seqAt hx rd
      exact sl_list pins s σ H _ v vl vu lo hi sl Q I rx hs pl pu ⟨_, _, rfl, by rw [hK]; exact s1, fun p hp => q.lst w (r1.cut lo hi) hp⟩
    · exact q.elim
  | _ => exact q.elim

/-! ### calls of builtins -/
theorem RVs.one {K : PySem.W.Frag} {d : D} {vs : List V} (r : RVs K al H [d] vs) : ∃ v, vs = [v] ∧ RV K al H d v := by
  cases r with | cons r t => cases t; exact ⟨_, rfl, r⟩
theorem call_lenD (hK : X.K = Γ.K) : CallR X (.builtin "len") (rC Γ (fnD .len)) := by
  refine CallR.cases fun vs H Q ⟨W, al, S, ds, w, r, q⟩ => ?_
  match ds, r, q with
  | [.tup xs], r, q =>
    obtain ⟨v, rfl, rd⟩ := r.one
    cases rd with | tup h1 r1 =>
    have hc := @call_len_seq X
    rw [hK] at hc
    exact ⟨_, hc, _, _, rfl, .inr h1, by rw [← r1.length]; exact q.val w (.int _)⟩
  | [.str x], r, q =>
    obtain ⟨v, rfl, rd⟩ := r.one
    cases rd
    have q : Post Γ W al H (if x.length ≤ sizeLine then .ok (.int x.length) S else .bad) (KV' Γ Q) := q
    split at q
    · rename_i hz
      exact ⟨_, call_len_str, _, rfl, hz, q.val w (.int _)⟩
    · exact q.elim
  | [.ref n], r, q =>
    obtain ⟨v, rfl, rd⟩ := r.one
    have q : Post Γ W al H (match listAt S n with | some xs => .ok (.int xs.length) S | none => .bad) (KV' Γ Q) := q
    split at q
    · rename_i xs hx
      obtain ⟨a, vs, rfl, s1, r1⟩ := w.seqAt hx rd
      have hc := @call_len_seq X
      rw [hK] at hc
      exact ⟨_, hc, _, _, rfl, .inl s1, by rw [← r1.length]; exact q.val w (.int _)⟩
    · exact q.elim
  | [.non], _, q => exact q.elim
  | [.bl _], _, q => exact q.elim
  | [.int _], _, q => exact q.elim
  | [], _, q => exact q.elim
  | x :: _ :: _, _, q => cases x <;> exact q.elim
theorem call_intD : CallR X (.type "int") (rC Γ (fnD .int)) := by
  refine CallR.cases fun vs H Q ⟨W, al, S, ds, w, r, q⟩ => ?_
  match ds, r, q with
  | [.int i], r, q =>
    obtain ⟨v, rfl, rd⟩ := r.one
    cases rd
    exact ⟨_, call_int1, .inl ⟨_, rfl, q.val w (.int _)⟩⟩
  | [.non], _, q => exact q.elim
  | [.bl _], _, q => exact q.elim
  | [.str _], _, q => exact q.elim
  | [.tup _], _, q => exact q.elim
  | [.ref _], _, q => exact q.elim
  | [], _, q => exact q.elim
  | x :: _ :: _, _, q => cases x <;> exact q.elim
theorem call_absD : CallR X (.builtin "abs") (rC Γ (fnD .abs)) := by
  refine CallR.cases fun vs H Q ⟨W, al, S, ds, w, r, q⟩ => ?_
  match ds, r, q with
  | [.int i], r, q =>
    obtain ⟨v, rfl, rd⟩ := r.one
    cases rd
    exact ⟨_, call_abs, _, rfl, q.val w (.int _)⟩
  | [.non], _, q => exact q.elim
  | [.bl _], _, q => exact q.elim
  | [.str _], _, q => exact q.elim
  | [.tup _], _, q => exact q.elim
  | [.ref _], _, q => exact q.elim
  | [], _, q => exact q.elim
  | x :: _ :: _, _, q => cases x <;> exact q.elim
theorem call_listD (hK : X.K = Γ.K) : CallR X (.type "list") (rC Γ (fnD .list)) := by
  refine CallR.cases fun vs H Q ⟨W, al, S, ds, w, r, q⟩ => ?_
  have hc := @call_list_of X
  rw [hK] at hc
  match ds, r, q with
  | [.tup xs], r, q =>
    obtain ⟨v, rfl, rd⟩ := r.one
    cases rd with | tup h1 r1 => exact ⟨_, hc, _, _, rfl, .inr h1, fun p hp => q.lst w r1 hp⟩
  | [.ref n], r, q =>
    obtain ⟨v, rfl, rd⟩ := r.one
    have q : Post Γ W al H (match listAt S n with | some xs => .ok (.ref S.length) (S ++ [.lst xs]) | none => .bad) (KV' Γ Q) := q
    split at q
    · rename_i xs hx
      obtain ⟨a, vs, rfl, s1, r1⟩ := w.seqAt hx rd
      exact ⟨_, hc, _, _, rfl, .inl s1, fun p hp => q.lst w r1 hp⟩
    · exact q.elim
  | [.non], _, q => exact q.elim
  | [.bl _], _, q => exact q.elim
  | [.int _], _, q => exact q.elim
  | [.str _], _, q => exact q.elim
  | [], _, q => exact q.elim
  | x :: _ :: _, _, q => cases x <;> exact q.elim
theorem call_tupleD (hK : X.K = Γ.K) : CallR X (.type "tuple") (rC Γ (fnD .tuple)) := by
  refine CallR.cases fun vs H Q ⟨W, al, S, ds, w, r, q⟩ => ?_
  have hc := @call_tuple_of X
  rw [hK] at hc
  match ds, r, q with
  | [.tup xs], r, q =>
    obtain ⟨v, rfl, rd⟩ := r.one
    cases rd with | tup h1 r1 => exact ⟨_, hc, _, _, rfl, .inr ⟨h1, q.val w (.tup h1 r1)⟩⟩
  | [.ref n], r, q =>
    obtain ⟨v, rfl, rd⟩ := r.one
    have q : Post Γ W al H (match listAt S n with | some xs => .ok (.tup xs) S | none => .bad) (KV' Γ Q) := q
    split at q
    · rename_i xs hx
      obtain ⟨a, vs, rfl, s1, r1⟩ := w.seqAt hx rd
      exact ⟨_, hc, _, _, rfl, .inl ⟨s1, fun p hp => q.tup w r1 hp⟩⟩
    · exact q.elim
  | [.non], _, q => exact q.elim
  | [.bl _], _, q => exact q.elim
  | [.int _], _, q => exact q.elim
  | [.str _], _, q => exact q.elim
  | [], _, q => exact q.elim
  | x :: _ :: _, _, q => cases x <;> exact q.elim
theorem call_sumD (hK : X.K = Γ.K) (hc : X.calm = true) : CallR X (.builtin "sum") (rC Γ (fnD .sum)) := by
  refine CallR.cases fun vs H Q ⟨W, al, S, ds, w, r, q⟩ => ?_
  match ds, r, q with
  | [.ref n], r, q =>
    obtain ⟨v, rfl, rd⟩ := r.one
    have q : Post Γ W al H (match listAt S n with | some xs => (match dInts xs with | some is => .ok (.int is.sum) S | none => .bad) | none => .bad) (KV' Γ Q) := q
    split at q
    · rename_i xs hx
      split at q
      · rename_i is hi
        obtain ⟨a, vs, rfl, s1, r1⟩ := w.seqAt hx rd
        have hs := cr_sum (X := X) hc
        rw [hK] at hs
        exact ⟨_, hs, _, is, rfl, by rw [← r1.ints hi]; exact s1, q.val w (.int _)⟩
      · exact q.elim
    · exact q.elim
  | [.tup _], _, q => exact q.elim
  | [.non], _, q => exact q.elim
  | [.bl _], _, q => exact q.elim
  | [.int _], _, q => exact q.elim
  | [.str _], _, q => exact q.elim
  | [], _, q => exact q.elim
  | x :: _ :: _, _, q => cases x <;> exact q.elim
/-- a builtin's value -/
def bfV : Bf → Value
  | .len => .builtin "len" | .int => .type "int" | .list => .type "list" | .tuple => .type "tuple" | .sum => .builtin "sum" | .abs => .builtin "abs"
theorem call_fnD (hK : X.K = Γ.K) (hc : X.calm = true) (b : Bf) : CallR X (bfV b) (rC Γ (fnD b)) := by
  cases b
  · exact call_lenD hK
  · exact call_intD
  · exact call_listD hK
  · exact call_tupleD hK
  · exact call_sumD hK hc
  · exact call_absD
end
end Mi
set_option autoImplicit true
set_option Elab.async false
set_option linter.all false
set_option maxRecDepth 100000
set_option maxHeartbeats 2000000
/-! MiB4: which text a term of the small language stands for (chk), and that it means what the text does. -/
namespace Mi
open PySem PySem.Spec PyProof.Rows L2

/-! ### the check -/
def visB (sc : Scope) (x : Str) : Bool := match sc.names.lookup x with | some .local => true | some .cell => true | some .free => true | _ => false
def locB (fn : Str → Bool) (sc : Scope) (x : Str) : Bool := match sc.names.lookup x with | some .local => true | some .cell => fn x | _ => false
def glB (sc : Scope) (x : Str) : Bool := match sc.names.lookup x with | some .globalImplicit => true | _ => false
def okB (x : Str) : Bool := !(x == ("__debug__" : Str)) && !(x == ("__classdict__" : Str)) && !(x == ("__name__" : Str))
def starB : Expr → Bool | .Starred .. => true | _ => false
def boOf : Bo → Operator → Bool
  | .add, .Add => true | .sub, .Sub => true | .mul, .Mult => true | .mod, .Mod => true | .fdiv, .FloorDiv => true | .pow, .Pow => true | _, _ => false
def coB : Co → CmpOp → Bool
  | .eq, .Eq => true | .ne, .NotEq => true | .lt, .Lt => true | .le, .LtE => true | .gt, .Gt => true | .ge, .GtE => true
  | .is, .Is => true | .isnot, .IsNot => true | .inn, .In => true | .notin, .NotIn => true | _, _ => false
def setB : Expr → Bool | .Set .. => true | _ => false
def cstB : D → Const → Bool
  | .non, .none => true
  | .bl a, .bool b => a == b
  | .int i, .int j => i == j
  | .str x, .str y => x == y
  | _, _ => false
def bfN : Bf → Str
  | .len => "len" | .int => "int" | .list => "list" | .tuple => "tuple" | .sum => "sum" | .abs => "abs"
def tyN : Ty → Str
  | .int => "int" | .bool => "bool" | .str => "str" | .tuple => "tuple" | .list => "list"
def mtN : Mt → Str
  | .append => "append" | .pop => "pop" | .remove => "remove"
/-- a test that is no and, or, not, if, comparison -/
def plainB : Expr → Bool
  | .UnaryOp .Not _ _ => false
  | .BoolOp .. => false
  | .IfExp .. => false
  | .Compare .. => false
  | _ => true
def sliceB : Expr → Bool | .Slice .. => true | _ => false
def tgB (fn : Str → Bool) (N : List Str) (sc : Scope) : Tg → Expr → Bool
  | .nm i, .Name x _ => decide (N[i]? = some x) && locB fn sc x
  | .tup is, .Tuple es _ _ => es.length == is.length && (is.zip es).all fun p => match p.2 with | .Name x _ => decide (N[p.1]? = some x) && locB fn sc x | _ => false
  | _, _ => false
/-- the marks of a module's constant, of a dict of it -/
def conM : List Str := ["="]
def dicM : List Str := ["{}"]
/-- how a def is called: by places, or (one value by place) by keywords -/
def CalB (K : PySem.W.Frag) (fd : FuncData) (ps : List Str) : List Str → Prop
  | [] => L2.Binds K fd ps []
  | k :: ks => ps.length = ks.length + 2 ∧ KBn K fd ps 1 (k :: ks) (fun us ws => us ++ ws) (fun vs zs => vs ++ zs)
/-- what a context gives; lv: how deep generator expressions may still stand one in another -/
structure G (Γ : Gam) (Φ : Orc) (X : Cx) (W : WX) (lv : Nat) : Prop where
  K : X.K = Γ.K
  calm : X.calm = true
  nd : X.N.Nodup
  rm : Room (8 * lv) X.A
  blt : ∀ x ∈ (["len", "int", "list", "tuple", "sum", "abs", "isinstance", "bool", "str", "range", "all", "any", "sorted", "min", "max", "zip", "enumerate"] : List Str), X.mg x = none
  tk : Takes X W
  cal : ∀ (i : Nat) (x : Str) (ks : List Str), Γ.nm[i]? = some (x, ks) → ks ≠ conM → ks ≠ dicM → ∃ np k f fd ps, (∀ ds S, ds.length ≠ np → Φ i ds S = .bad) ∧ FnOk X.prog X.w X.K X.mg X.base (L2.CX X.prog X.w) k f fd ps (Sp' Γ Φ np i) ∧
    Room (k + 8 * lv) X.A ∧ X.mg x = some (.ref f) ∧ PySem.W.keepIn X.K (.ref f) = true ∧ CalB X.K fd ps ks
  con : ∀ (i : Nat) (x : Str), Γ.nm[i]? = some (x, conM) → ∃ u v d, X.mg x = some u ∧ RelV v u ∧ (∀ S, Φ i [] S = .ok d S) ∧ ∀ al H, RV Γ.K al H d v
  dic : ∀ (i : Nat) (x : Str), Γ.nm[i]? = some (x, dicM) → ∃ da es n, X.mg x = some (.ref da) ∧ KDict X.K X.w da es n ∧ ∀ d S, Φ i [d] S ≠ .bad → ∃ z r u v, d = .str z ∧ Φ i [d] S = .ok r S ∧ PySem.W.nsIn X.K da z = some (some u) ∧ RelV v u ∧ ∀ al H, RV Γ.K al H r v
  tab : lv = 0 ∨ ∃ c P, X.env.code = .ref c ∧ GxR.TabB X.base X.mg c P ∧ P ∈ Γ.T
theorem G.un {Γ : Gam} {Φ : Orc} {X : Cx} {W : WX} {lv : Nat} (g : G Γ Φ X W lv) : X.A.units + 65 < cLine := by
  have := g.rm.un
  omega

section
variable {X : Cx} {Γ : Gam} {Φ : Orc} {W : WX} {pos : Pos} {lv : Nat}
theorem visOf {sc : Scope} {x : Str} (h : visB sc x = true) : Vis sc x := by
  unfold visB at h
  unfold Vis
  split at h
  · exact .inl (by assumption)
  · exact .inr (.inl (by assumption))
  · exact .inr (.inr (by assumption))
  · cases h
theorem locOf {fn : Str → Bool} {sc : Scope} {x : Str} (h : locB fn sc x = true) : Loc sc x ∧ (fn x = true ∨ sc.names.lookup x = some .local) := by
  unfold locB at h
  split at h
  · exact ⟨.inl (by assumption), .inr (by assumption)⟩
  · exact ⟨.inr (by assumption), .inl h⟩
  · cases h
theorem glOf {x : Str} (h : glB X.env.scope x = true) : Gl X x := by
  unfold glB at h
  split at h
  · assumption
  · cases h
theorem okOf {x : Str} (h : okB x = true) : (x == ("__debug__" : Str)) = false ∧ (x == ("__classdict__" : Str)) = false ∧ x ≠ "__name__" := by
  unfold okB at h
  simp only [Bool.and_eq_true, Bool.not_eq_true'] at h
  exact ⟨h.1.1, h.1.2, fun e => by rw [e] at h; exact absurd h.2 (by decide)⟩
/-! ### T's own rules -/
theorem T_of {m : E} {σ : L2.St} {H : Hp} {Q : VK} {al : List Addr} {ρ : Env} {S : Store} (w : WI Γ.K Γ.T al S H) (r : RE Γ.K al H ρ σ) {k : D → List Addr → Store → Hp → Prop}
    (h : Post Γ (fun c d H => W c d σ H) al H (ev Φ m ρ S) k) (i : ∀ d al' S' H' v, Ext al H al' H' → WI Γ.K Γ.T al' S' H' → RE Γ.K al' H' ρ σ → RV Γ.K al' H' d v → k d al' S' H' → Q v H') : T Γ Φ W m σ H Q :=
  ⟨al, ρ, S, w, r, h.imp fun d al' S' H' x w' z v rv => i d al' S' H' v x w' (r.ext w x) rv z⟩
theorem TL_of {m : E} {σ : L2.St} {H : Hp} {Q : List V → Hp → Prop} {al : List Addr} {ρ : Env} {S : Store} (w : WI Γ.K Γ.T al S H) (r : RE Γ.K al H ρ σ) {k : List D → List Addr → Store → Hp → Prop}
    (h : Post Γ (fun c d H => W c d σ H) al H (evs Φ m ρ S) k) (i : ∀ d al' S' H' v, Ext al H al' H' → WI Γ.K Γ.T al' S' H' → RE Γ.K al' H' ρ σ → RVs Γ.K al' H' d v → k d al' S' H' → Q v H') : TL Γ Φ W m σ H Q :=
  ⟨al, ρ, S, w, r, h.imp fun d al' S' H' x w' z v rv => i d al' S' H' v x w' (r.ext w x) rv z⟩
theorem TT_of {m : E} {σ : L2.St} {H : Hp} {Q : Bool → Hp → Prop} {al : List Addr} {ρ : Env} {S : Store} (w : WI Γ.K Γ.T al S H) (r : RE Γ.K al H ρ σ) {k : Bool → List Addr → Store → Hp → Prop}
    (h : Post Γ (fun c d H => W c d σ H) al H (evT Φ m ρ S) k) (i : ∀ b al' S' H', Ext al H al' H' → WI Γ.K Γ.T al' S' H' → RE Γ.K al' H' ρ σ → k b al' S' H' → Q b H') : TTt Γ Φ W m σ H Q :=
  ⟨al, ρ, S, w, r, h.imp fun d al' S' H' x w' z => i d al' S' H' x w' (r.ext w x) z⟩

theorem s_var {i : Nat} {x : Str} (g : G Γ Φ X W lv) (h1 : X.N[i]? = some x) (h2 : visB X.env.scope x = true) (h3 : okB x = true) : PE X (.Name x pos) (T Γ Φ W (.var i)) := by
  refine (pe_var h1 (visOf h2) (okOf h3).1 (okOf h3).2.1).imp fun σ H Q ⟨al, ρ, S, w, r, h⟩ => ?_
  have h : Post Γ (fun c d H => W c d σ H) al H (match ρ[i]? with | some (some d) => .ok d S | _ => .bad) (KV' Γ Q) := h
  split at h
  · rename_i d e
    obtain ⟨v, e', rv⟩ := r.at_ i d e
    exact ⟨v, e', h.val w rv⟩
  · exact h.elim
theorem s_cst {d : D} {c : Const} {k : Nat} (h : cstB d c = true) : PE X (.Constant c k pos) (T Γ Φ W (.cst d)) := by
  cases d <;> cases c <;> first | cases h | skip
  · exact pe_non.imp fun σ H Q ⟨al, ρ, S, w, r, h⟩ => Post.val (d := .non) w h .non
  · obtain rfl := eq_of_beq h
    exact pe_bl.imp fun σ H Q ⟨al, ρ, S, w, r, h⟩ => Post.val (d := .bl _) w h (.bl _)
  · obtain rfl := eq_of_beq h
    exact pe_int.imp fun σ H Q ⟨al, ρ, S, w, r, h⟩ => Post.val (d := .int _) w h (.int _)
  · obtain rfl := eq_of_beq h
    exact pe_str.imp fun σ H Q ⟨al, ρ, S, w, r, h⟩ => Post.val (d := .str _) w h (.str _)
theorem s_tup {es : E} {xs : List Expr} {k : Nat} (h : PA X xs (TL Γ Φ W es)) : PE X (.Tuple xs k pos) (T Γ Φ W (.tup es)) := by
  refine (pe_tup h).imp fun σ H Q ⟨al, ρ, S, w, r, h⟩ => TL_of w r (Post.bind h) fun ds al' S' H' vs x w' r' rv q => ?_
  by_cases hz : ds.length ≤ sizeLine
  · rw [if_pos hz] at q
    exact ⟨by rw [← rv.length]; exact hz, fun p hp => q.tup w' rv hp⟩
  · rw [if_neg hz] at q; exact q.elim
theorem s_lst {es : E} {xs : List Expr} (h : PA X xs (TL Γ Φ W es)) : PE X (.List xs pos) (T Γ Φ W (.lst es)) := by
  refine (pe_lst h).imp fun σ H Q ⟨al, ρ, S, w, r, h⟩ => TL_of w r (Post.bind h) fun ds al' S' H' vs x w' r' rv q => ?_
  by_cases hz : ds.length ≤ sizeLine
  · rw [if_pos hz] at q
    exact ⟨by rw [← rv.length]; exact hz, fun p hp => q.lst w' rv hp⟩
  · rw [if_neg hz] at q; exact q.elim
theorem s_bin {o : Bo} {op : Operator} {a b : E} {l r : Expr} (g : G Γ Φ X W lv) (ho : boOf o op = true) (ha : PE X l (T Γ Φ W a)) (hb : PE X r (T Γ Φ W b)) : PE X (.BinOp l op r pos) (T Γ Φ W (.bin o a b)) := by
  have e : op = opOf o := by cases o <;> cases op <;> first | rfl | cases ho
  subst e
  refine (pe_op (op_binD g.K o) ha hb).imp fun σ H Q ⟨al, ρ, S, w, r, h⟩ => T_of w r (Post.bind h) fun d al' S' H' v x w' r' rv q => ?_
  refine T_of w' r' (Post.bind q) fun e al'' S'' H'' u x' w'' r'' ru q' => ?_
  exact ⟨_, al'', S'', d, e, w'', rv.ext w' x', ru, q'⟩
theorem s_neg {a : E} {l : Expr} (ha : PE X l (T Γ Φ W a)) : PE X (.UnaryOp .USub l pos) (T Γ Φ W (.neg a)) := by
  refine (pe_un un_neg ha).imp fun σ H Q ⟨al, ρ, S, w, r, h⟩ => T_of w r (Post.bind h) fun d al' S' H' v x w' r' rv q => ?_
  cases d with
  | int i => cases rv; exact ⟨_, rfl, Post.val (d := .int (-i)) w' q (.int _)⟩
  | _ => exact q.elim
theorem noset {op : CmpOp} {e : Expr} (h : setB e = false) : behindInMarks op e = false := by
  cases e <;> first | rfl | cases h
theorem nosets {o1 o2 : CmpOp} {e1 e2 : Expr} (h : setB e2 = false) : lastMarks [o1, o2] [e1, e2] = false := noset h
theorem Post.ofO {β : Type} {W : XK} {al : List Addr} {S : Store} {H : Hp} {o : Option β} {k : β → List Addr → Store → Hp → Prop} (w : WI Γ.K Γ.T al S H) (h : Post Γ W al H (ofO o S) k) : ∃ b, o = some b ∧ k b al S H := by
  cases o with
  | some b => exact ⟨b, rfl, h al H .refl w⟩
  | none => exact h.elim
theorem coEq {o : Co} {op : CmpOp} (h : coB o op = true) : op = coOf o := by cases o <;> cases op <;> first | rfl | cases h
theorem s_cmp {o : Co} {op : CmpOp} {a b : E} {l r : Expr} (g : G Γ Φ X W lv) (ho : coB o op = true) (ha : PE X l (T Γ Φ W a)) (hb : PE X r (T Γ Φ W b)) (hs : setB r = false) : PE X (.Compare l [op] [r] pos) (T Γ Φ W (.cmp o a b)) := by
  obtain rfl := coEq ho
  refine (pe_cmpR (op_cmpD g.K g.un o) ha hb (noset hs)).imp fun σ H Q ⟨al, ρ, S, w, r, h⟩ => T_of w r (Post.bind h) fun d al' S' H' v x w' r' rv q => ?_
  refine T_of w' r' (Post.bind q) fun e al'' S'' H'' u x' w'' r'' ru q' => ?_
  obtain ⟨c, e1, q'⟩ := Post.ofO w'' q'
  cases hc : cmpD o d e S'' with
  | none => rw [hc] at e1; cases e1
  | some c' => rw [hc] at e1; cases e1; exact ⟨al'', S'', d, e, c', w'', rv.ext w' x', ru, hc, q' _ (.bl _)⟩
/-- the truth of a value -/
def TTr (Γ : Gam) (Φ : Orc) (W : WX) (m : E) : TT := fun σ H Q => ∃ al ρ S, WI Γ.K Γ.T al S H ∧ RE Γ.K al H ρ σ ∧ Post Γ (fun c d H => W c d σ H) al H ((ev Φ m ρ S).bind fun x S => ofO (truthD S x) S) (fun b _ _ H' => Q b H')
theorem st_cmp {o : Co} {op : CmpOp} {a b : E} {l r : Expr} (g : G Γ Φ X W lv) (ho : coB o op = true) (ha : PE X l (T Γ Φ W a)) (hb : PE X r (T Γ Φ W b)) (hs : setB r = false) : PT X (.Compare l [op] [r] pos) (TTr Γ Φ W (.cmp o a b)) := by
  obtain rfl := coEq ho
  refine (pt_cmpR (op_cmpD g.K g.un o) ha hb (noset hs)).imp fun σ H Q ⟨al, ρ, S, w, r, h⟩ => ?_
  have h := Post.bind h
  have h : Post Γ (fun c d H => W c d σ H) al H ((ev Φ a ρ S).bind fun x S => (ev Φ b ρ S).bind fun y S => ofO ((cmpD o x y S).map D.bl) S) _ := h
  refine T_of w r (Post.bind h) fun d al' S' H' v x w' r' rv q => ?_
  refine T_of w' r' (Post.bind q) fun e al'' S'' H'' u x' w'' r'' ru q' => ?_
  obtain ⟨c, e1, q'⟩ := Post.ofO w'' q'
  cases hc : cmpD o d e S'' with
  | none => rw [hc] at e1; cases e1
  | some c' =>
    rw [hc] at e1; cases e1
    obtain ⟨b, e2, q'⟩ := Post.ofO w'' q'
    cases e2
    exact ⟨al'', S'', d, e, _, w'', rv.ext w' x', ru, hc, _, rfl, q'⟩
theorem chn_read {o1 o2 : Co} {a b c : E} {σ : L2.St} {H : Hp} {k : D → List Addr → Store → Hp → Prop} {Q : VK} {al : List Addr} {ρ : Env} {S : Store} (w : WI Γ.K Γ.T al S H) (r : RE Γ.K al H ρ σ)
    (h : Post Γ (fun c d H => W c d σ H) al H (ev Φ (.chn o1 o2 a b c) ρ S) k) (hk : ∀ b al' S' H', WI Γ.K Γ.T al' S' H' → k (.bl b) al' S' H' → Q (.bl b) H') :
    tChain (rCmp Γ o1) (rCmp Γ o2) (T Γ Φ W a) (T Γ Φ W b) (T Γ Φ W c) σ H Q := by
  refine T_of w r (Post.bind h) fun d al' S' H' v x w' r' rv q => ?_
  refine T_of w' r' (Post.bind q) fun e al'' S'' H'' u x' w'' r'' ru q' => ?_
  cases hc : cmpD o1 d e S'' with
  | none => rw [hc] at q'; exact q'.elim
  | some c' =>
    rw [hc] at q'
    refine ⟨al'', S'', d, e, c', w'', rv.ext w' x', ru, hc, c', rfl, ?_⟩
    cases c' with
    | false => exact hk false _ _ _ w'' (q'.ok w'')
    | true =>
      rw [if_pos rfl]
      refine T_of w'' r'' (Post.bind q') fun f al3 S3 H3 t x3 w3 r3 rt q3 => ?_
      obtain ⟨c, e1, q4⟩ := Post.ofO w3 q3
      cases hc2 : cmpD o2 e f S3 with
      | none => rw [hc2] at e1; cases e1
      | some c' => rw [hc2] at e1; cases e1; exact ⟨al3, S3, e, f, c', w3, ru.ext w'' x3, rt, hc2, hk _ _ _ _ w3 q4⟩
theorem s_chn {o1 o2 : Co} {p1 p2 : CmpOp} {a b c : E} {l r1 r2 : Expr} (g : G Γ Φ X W lv) (h1 : coB o1 p1 = true) (h2 : coB o2 p2 = true) (ha : PE X l (T Γ Φ W a)) (hb : PE X r1 (T Γ Φ W b)) (hc : PE X r2 (T Γ Φ W c)) (hs : setB r2 = false) :
    PE X (.Compare l [p1, p2] [r1, r2] pos) (T Γ Φ W (.chn o1 o2 a b c)) := by
  obtain rfl := coEq h1
  obtain rfl := coEq h2
  exact (pe_chain (op_cmpD g.K g.un o1) (op_cmpD g.K g.un o2) ha hb hc (nosets hs)).imp fun σ H Q ⟨al, ρ, S, w, r, h⟩ => chn_read w r h fun b al' S' H' w' q => q _ (.bl b)
theorem st_chn {o1 o2 : Co} {p1 p2 : CmpOp} {a b c : E} {l r1 r2 : Expr} (g : G Γ Φ X W lv) (h1 : coB o1 p1 = true) (h2 : coB o2 p2 = true) (ha : PE X l (T Γ Φ W a)) (hb : PE X r1 (T Γ Φ W b)) (hc : PE X r2 (T Γ Φ W c)) (hs : setB r2 = false) :
    PT X (.Compare l [p1, p2] [r1, r2] pos) (TTr Γ Φ W (.chn o1 o2 a b c)) := by
  obtain rfl := coEq h1
  obtain rfl := coEq h2
  refine (pt_chain (op_cmpD g.K g.un o1) (op_cmpD g.K g.un o2) ha hb hc (nosets hs)).imp fun σ H Q ⟨al, ρ, S, w, r, h⟩ => chn_read w r (Post.bind h) fun b al' S' H' w' q => ⟨b, rfl, ?_⟩
  obtain ⟨c, e, q⟩ := Post.ofO w' q
  cases e
  exact q
end
end Mi
set_option autoImplicit true
set_option Elab.async false
set_option linter.all false
set_option maxRecDepth 100000
set_option maxHeartbeats 2000000
/-! MiB5: the expressions of the small language mean what the text does. -/
namespace Mi
open PySem PySem.Spec PyProof.Rows L2
section
variable {X : Cx} {Γ : Gam} {Φ : Orc} {W : WX} {pos : Pos} {lv : Nat}
theorem isEmpty_len {α β : Type} {xs : List α} {ys : List β} (h : xs.length = ys.length) : xs.isEmpty = ys.isEmpty := by
  cases xs <;> cases ys <;> first | rfl | simp at h
theorem truth_v {K : PySem.W.Frag} {Ta al : List Addr} {S : Store} {H : Hp} {d : D} {v : V} {b : Bool} (w : WI K Ta al S H) (r : RV K al H d v) (h : truthD S d = some b) : TruV K v H b := by
  cases d with
  | non => cases r; cases h; rfl
  | bl c => cases r; cases h; rfl
  | int i => cases r; cases h; rfl
  | str x =>
    cases r
    have h : (if x.length ≤ sizeLine then some ((x.length : Int) != 0) else none) = some b := h
    by_cases hz : x.length ≤ sizeLine
    · rw [if_pos hz] at h; cases h; exact ⟨hz, rfl⟩
    · rw [if_neg hz] at h; cases h
  | tup xs =>
    cases h
    cases r with | tup h1 r1 =>
    refine .inr (.inl ⟨_, h1, ?_⟩)
    rw [isEmpty_len r1.length]
  | ref n =>
    have h : (listAt S n).map (fun xs => !xs.isEmpty) = some b := h
    cases e : listAt S n with
    | none => rw [e] at h; cases h
    | some xs =>
      rw [e] at h; cases h
      obtain ⟨a, vs, rfl, s1, r1⟩ := (show ∃ a vs, v = .ref a ∧ SqL K H a vs ∧ RVs K al H xs vs by
        obtain ⟨a, vs, e', z, q⟩ := w.list e
        cases r with
        | ref e2 => rw [e'] at e2; cases e2; exact ⟨_, vs, rfl, z, q⟩)
      refine .inl ⟨_, s1, ?_⟩
      show (!xs.isEmpty) = !vs.isEmpty
      rw [isEmpty_len r1.length]
theorem plain_he {e : Expr} (h : plainB e = true) : ∀ whole, isTrue e X.env whole = (do let v ← whole; standAt e.pos; holding [v] (truthy v)) := by
  intro whole
  cases e <;> first | rfl | cases h | skip
  rename_i op x p
  cases op <;> first | rfl | cases h
theorem s_tr {m : E} {e : Expr} (g : G Γ Φ X W lv) (h : PE X e (T Γ Φ W m)) (hp : plainB e = true) : PT X e (TTr Γ Φ W m) := by
  refine (pt_truth h (plain_he hp)).imp fun σ H Q ⟨al, ρ, S, w, r, h⟩ => T_of w r (Post.bind h) fun d al' S' H' v x w' r' rv q => ?_
  obtain ⟨b, e, q⟩ := Post.ofO w' q
  rw [g.K]
  exact ⟨b, truth_v w' rv e, q⟩
theorem s_not {a : E} {l : Expr} (g : G Γ Φ X W lv) (ha : PE X l (T Γ Φ W a)) : PE X (.UnaryOp .Not l pos) (T Γ Φ W (.not a)) := by
  refine (pe_notT ha).imp fun σ H Q ⟨al, ρ, S, w, r, h⟩ => T_of w r (Post.bind h) fun d al' S' H' v x w' r' rv q => ?_
  obtain ⟨b, e, q⟩ := Post.ofO w' q
  cases hb : truthD S' d with
  | none => rw [hb] at e; cases e
  | some c => rw [hb] at e; cases e; rw [g.K]; exact ⟨c, truth_v w' rv hb, q _ (.bl _)⟩
theorem s_ite {c a b : E} {t x y : Expr} (hc : PT X t (TTt Γ Φ W c)) (ha : PE X x (T Γ Φ W a)) (hb : PE X y (T Γ Φ W b)) : PE X (.IfExp t x y pos) (T Γ Φ W (.ite c a b)) := by
  refine (pe_ifExp hc ha hb).imp fun σ H Q ⟨al, ρ, S, w, r, h⟩ => TT_of w r (Post.bind h) fun k al' S' H' x w' r' q => ?_
  cases k with
  | true => rw [if_pos rfl]; rw [if_pos rfl] at q; exact ⟨al', ρ, S', w', r', q⟩
  | false => rw [if_neg Bool.false_ne_true]; rw [if_neg Bool.false_ne_true] at q; exact ⟨al', ρ, S', w', r', q⟩
theorem plainIx {s : Expr} (h : sliceB s = false) : PlainIx s := by
  intro v u
  cases s <;> first | rfl | cases h
theorem s_sub {a i : E} {v s : Expr} (g : G Γ Φ X W lv) (ha : PE X v (T Γ Φ W a)) (hi : PE X s (T Γ Φ W i)) (hs : sliceB s = false) : PE X (.Subscript v s pos) (T Γ Φ W (.sub a i)) := by
  refine (pe_ix (ix_subD g.K (by have := g.un; omega)) ha hi (plainIx hs)).imp fun σ H Q ⟨al, ρ, S, w, r, h⟩ => T_of w r (Post.bind h) fun d al' S' H' v x w' r' rv q => ?_
  refine T_of w' r' (Post.bind q) fun e al'' S'' H'' u x' w'' r'' ru q' => ?_
  obtain ⟨z, e1, q⟩ := Post.ofO w'' q'
  exact ⟨al'', S'', d, e, z, w'', rv.ext w' x', ru, e1, q⟩
/-- a slice's part -/
def TP (Γ : Gam) (Φ : Orc) (W : WX) (m : E) : TO := fun σ H Q => ∃ al ρ S, WI Γ.K Γ.T al S H ∧ RE Γ.K al H ρ σ ∧ Post Γ (fun c d H => W c d σ H) al H (evP Φ m ρ S) (fun o _ _ H' => Q o H')
theorem _root_.L2.PO.imp {e : Option Expr} {t t' : TO} (h : PO X e t) (i : ∀ σ H Q, t' σ H Q → t σ H Q) : PO X e t' := ⟨fun pins s σ H Q I w => h.run pins s σ H Q I (i _ _ _ w)⟩
theorem sp_nil : PO X none (TP Γ Φ W .nil) := po_none.imp fun σ H Q ⟨al, ρ, S, w, r, h⟩ => Post.ok (b := (none : Option Int)) w h
theorem sp_one {a : E} {e : Expr} (h : PE X e (T Γ Φ W a)) : PO X (some e) (TP Γ Φ W (.cons a .nil)) := by
  refine (po_some h).imp fun σ H Q ⟨al, ρ, S, w, r, h⟩ => T_of w r (Post.bind h) fun d al' S' H' v x w' r' rv q => ?_
  cases d with
  | int i => cases rv; exact ⟨i, rfl, Post.ok (b := some i) w' q⟩
  | _ => exact q.elim
theorem TP_of {m : E} {σ : L2.St} {H : Hp} {Q : Option Int → Hp → Prop} {al : List Addr} {ρ : Env} {S : Store} (w : WI Γ.K Γ.T al S H) (r : RE Γ.K al H ρ σ) {k : Option Int → List Addr → Store → Hp → Prop}
    (h : Post Γ (fun c d H => W c d σ H) al H (evP Φ m ρ S) k) (i : ∀ o al' S' H', Ext al H al' H' → WI Γ.K Γ.T al' S' H' → RE Γ.K al' H' ρ σ → k o al' S' H' → Q o H') : TP Γ Φ W m σ H Q :=
  ⟨al, ρ, S, w, r, h.imp fun d al' S' H' x w' z => i d al' S' H' x w' (r.ext w x) z⟩
theorem s_slc {a lo hi : E} {v : Expr} {l h : Option Expr} {p2 : Pos} (g : G Γ Φ X W lv) (ha : PE X v (T Γ Φ W a)) (hl : PO X l (TP Γ Φ W lo)) (hh : PO X h (TP Γ Φ W hi)) : PE X (.Subscript v (.Slice l h none p2) pos) (T Γ Φ W (.slc a lo hi)) := by
  refine (pe_slice (sl_D g.K) ha hl hh).imp fun σ H Q ⟨al, ρ, S, w, r, h⟩ => T_of w r (Post.bind h) fun d al' S' H' v x w' r' rv q => ?_
  refine TP_of w' r' (Post.bind q) fun o al2 S2 H2 x2 w2 r2 q2 => ?_
  refine TP_of w2 r2 (Post.bind q2) fun o' al3 S3 H3 x3 w3 r3 q3 => ?_
  exact ⟨_, al3, S3, d, w3, (rv.ext w' x2).ext w2 x3, q3⟩

/-! ### arguments, calls -/
theorem star_ok {e : Expr} {es : List Expr} {env : PySem.Env} (h : starB e = false) : starEach (e :: es) env = (false, eval e env) :: starEach es env := by
  cases e <;> first | rfl | cases h
theorem sl_nil : PA X [] (TL Γ Φ W .nil) := pa_nil.imp fun σ H Q ⟨al, ρ, S, w, r, h⟩ => Post.ok (b := ([] : List D)) w h _ .nil
theorem sl_cons {a b : E} {e : Expr} {es : List Expr} (ha : PE X e (T Γ Φ W a)) (hb : PA X es (TL Γ Φ W b)) (hs : starB e = false) : PA X (e :: es) (TL Γ Φ W (.cons a b)) := by
  refine (pa_cons ha hb (star_ok hs)).imp fun σ H Q ⟨al, ρ, S, w, r, h⟩ => T_of w r (Post.bind h) fun d al' S' H' v x w' r' rv q => ?_
  refine TL_of w' r' (Post.bind q) fun ds al2 S2 H2 vs x2 w2 r2 rvs q2 => ?_
  exact Post.ok (b := d :: ds) w2 q2 _ (.cons (rv.ext w' x2) rvs)
theorem s_call {f : Nat} {es : E} {x : Str} {p : Pos} {e : Expr} {as : List Expr} (g : G Γ Φ X W lv) (hf : Γ.nm[f]? = some (x, [])) (hg : glB X.env.scope x = true) (ho : okB x = true) (ha : PA X (e :: as) (TL Γ Φ W es)) (hs : starB e = false)
    (hn : ∀ (env : PySem.Env) (pos : Pos), (backTo pos (starEach as env)).any (·.1) = false) : PE X (.Call (.Name x p) (e :: as) [] pos) (T Γ Φ W (.call f es)) := by
  obtain ⟨np, k, fa, fd, ps, hb, hF, hr, hm, hk, hB⟩ := g.cal f x [] hf (by decide) (by decide)
  refine (pe_callS hF (hr.mono (Nat.le_add_right _ _)) (glOf hg) hm hk hB (fun σ => passAt g.tk σ) ha (okOf ho).1 (star_ok hs) (hn _ _)).imp fun σ H Q ⟨al, ρ, S, w, r, h⟩ => TL_of w r (Post.bind h) fun ds al' S' H' vs x w' r' rv q => ?_
  refine ⟨?_, al', S', ds, w', rv, q⟩
  rw [← rv.length]
  by_cases hl : ds.length = np
  · exact hl
  · rw [hb ds S' hl] at q; exact q.elim
theorem _root_.L2.PK.imp {kws : List Keyword} {t t' : TA} (h : PK X kws t) (i : ∀ σ H Q, t' σ H Q → t σ H Q) : PK X kws t' := ⟨fun pos pins s σ H Q I w => h.run pos pins s σ H Q I (i _ _ _ w)⟩
theorem sk_nil : PK X [] (TL Γ Φ W .nil) := pk_nil.imp fun σ H Q ⟨al, ρ, S, w, r, h⟩ => Post.ok (b := ([] : List D)) w h _ .nil
theorem sk_cons {a b : E} {kw : Keyword} {kws : List Keyword} (ha : PE X kw.value (T Γ Φ W a)) (hb : PK X kws (TL Γ Φ W b)) : PK X (kw :: kws) (TL Γ Φ W (.cons a b)) := by
  obtain ⟨nm, e, p⟩ := kw
  refine (pk_cons ha hb).imp fun σ H Q ⟨al, ρ, S, w, r, h⟩ => T_of w r (Post.bind h) fun d al' S' H' v x w' r' rv q => ?_
  refine TL_of w' r' (Post.bind q) fun ds al2 S2 H2 vs x2 w2 r2 rvs q2 => ?_
  exact Post.ok (b := d :: ds) w2 q2 _ (.cons (rv.ext w' x2) rvs)
theorem kw_names {kws : List Keyword} {env : PySem.Env} {pos : Pos} (h : kws.all (·.arg.isSome) = true) : (backToKw pos (keywordEach kws env)).all (·.1.isSome) = true ∧ (backToKw pos (keywordEach kws env)).filterMap (·.1) = kws.filterMap (·.arg) ∧ (backToKw pos (keywordEach kws env)).any (·.1.isNone) = false := by
  induction kws with
  | nil => exact ⟨rfl, rfl, rfl⟩
  | cons kw kws ih =>
    obtain ⟨nm, e, p⟩ := kw
    rw [List.all_cons, Bool.and_eq_true] at h
    obtain ⟨h1, h2, h3⟩ := ih h.2
    cases nm with
    | none => cases h.1
    | some n =>
      refine ⟨?_, ?_, ?_⟩
      · show (true && (backToKw pos (keywordEach kws env)).all (·.1.isSome)) = true
        rw [h1]; rfl
      · show n :: (backToKw pos (keywordEach kws env)).filterMap (·.1) = n :: kws.filterMap (·.arg)
        rw [h2]
      · show (false || (backToKw pos (keywordEach kws env)).any (·.1.isNone)) = false
        rw [h3]; rfl
theorem s_callK {f : Nat} {a es : E} {x : Str} {p : Pos} {e : Expr} {kw : Keyword} {kws : List Keyword} (g : G Γ Φ X W lv) (hf : Γ.nm[f]? = some (x, (kw :: kws).filterMap (·.arg))) (hn : (kw :: kws).all (·.arg.isSome) = true) (hc : (kw :: kws).filterMap (·.arg) ≠ conM) (hd : (kw :: kws).filterMap (·.arg) ≠ dicM) (hg : glB X.env.scope x = true) (ho : okB x = true) (ha : PE X e (T Γ Φ W a)) (hs : starB e = false)
    (hk : PK X (kw :: kws) (TL Γ Φ W es)) : PE X (.Call (.Name x p) [e] (kw :: kws) pos) (T Γ Φ W (.call f (.cons a es))) := by
  obtain ⟨np, k, fa, fd, ps, hb, hF, hr, hm, hkp, hB⟩ := g.cal f x _ hf hc hd
  obtain ⟨k1, k2, k3⟩ := kw_names (env := X.env) (pos := pos) hn
  have hB : ps.length = ((kw :: kws).filterMap (·.arg)).length + 1 ∧ KBn X.K fd ps 1 ((kw :: kws).filterMap (·.arg)) (fun us ws => us ++ ws) (fun vs zs => vs ++ zs) := by
    generalize hks : (kw :: kws).filterMap (·.arg) = ks at hB
    cases ks with
    | nil =>
      rw [List.all_cons, Bool.and_eq_true] at hn
      obtain ⟨n, hn1⟩ := Option.isSome_iff_exists.mp hn.1
      rw [List.filterMap_cons, hn1] at hks
      cases hks
    | cons k ks => exact hB
  refine ⟨fun pins s σ H Q I ⟨al, ρ, S, w, r, h⟩ => ?_⟩
  have h : Post Γ (fun c d H => W c d σ H) al H (((ev Φ a ρ S).bind fun x S => (evs Φ es ρ S).bind fun xs S => .ok (x :: xs) S).bind fun ds S => Φ f ds S) (KV' Γ Q) := h
  have t1 : T Γ Φ W a σ H (fun v H1 => ∃ u, [v] = [u] ∧ TL Γ Φ W es σ H1 fun vs H2 => Sp' Γ Φ np f (u :: vs) H2 Q (fun c d H => W c d σ H)) := T_of w r (Post.bind (Post.bind h)) fun d al1 S1 H1 v x1 w1 r1 rv q => ⟨v, rfl, TL_of w1 r1 (Post.bind q) fun ds al2 S2 H2 vs x2 w2 r2 rvs q2 => by
    have q3 := Post.ok (b := d :: ds) w2 q2
    have hl : (d :: ds).length = np := by
      by_cases hl : (d :: ds).length = np
      · exact hl
      · rw [hb _ _ hl] at q3; exact q3.elim
    exact ⟨by rw [← hl]; simp [rvs.length], al2, S2, d :: ds, w2, .cons (rv.ext w1 x2) rvs, q3⟩⟩
  refine wpAny_Call_Name_kw (ld_glob I (glOf hg) hm ?_ (okOf ho).1)
  refine PySem.W.callWith_KW (h₀ := X.base) I.ok.mod.kin hkp k1 (thn ((pa_cons ha pa_nil (star_ok hs)).run pos pins s σ H (fun vs H1 => ∃ u, vs = [u] ∧ TL Γ Φ W es σ H1 fun vs H2 => Sp' Γ Φ np f (u :: vs) H2 Q (fun c d H => W c d σ H)) I t1) fun us s1 ⟨vs, H1, I1, rv, u, eu, q⟩ => ?_) (by rw [k3, star_ok hs]; rfl) (star_ok hs)
  subst eu
  refine thn (hk.run pos pins s1 σ H1 _ I1 q) fun ws s2 ⟨zs, H2, I2, rz, q2⟩ => ⟨I2.kIn, ?_⟩
  rw [k2]
  have hl := hF.len _ _ _ _ q2
  have l2 : ws.length = ((kw :: kws).filterMap (·.arg)).length := by
    have e := rz.length
    rw [hB.1, List.length_cons] at hl
    omega
  refine wpAny_call (codeAny_mono (hF.run X.A X.stack s2 H2 ⟨us, _⟩ (us ++ ws) (u :: zs) Q (fun c d H => W c d σ H) (hr.mono (Nat.le_add_right _ _)) I2.env0 (hB.2.to s2 us ws I2.kIn (rv.length.symm.trans rfl) l2) (hB.2.rel rv rz) q2) fun r s' hq => ?_)
  cases r with
  | error e => exact passAt g.tk σ pins H2 s2 e s' I2 hq
  | ok fl =>
    cases fl with
    | ret u => exact I2.after hq
    | next => exact False.elim hq
    | brk => exact False.elim hq
    | cont => exact False.elim hq
theorem bf_boot (b : Bf) : bootBuiltins (bfN b) = some (bfV b) ∧ bfN b ≠ "__name__" ∧ (bfN b == ("__debug__" : Str)) = false := by
  cases b <;> decide +kernel
theorem s_fn {b : Bf} {es : E} {p : Pos} {e : Expr} {as : List Expr} (g : G Γ Φ X W lv) (hg : glB X.env.scope (bfN b) = true) (ha : PA X (e :: as) (TL Γ Φ W es)) (hs : starB e = false)
    (hn : ∀ (env : PySem.Env) (pos : Pos), (backTo pos (starEach as env)).any (·.1) = false) : PE X (.Call (.Name (bfN b) p) (e :: as) [] pos) (T Γ Φ W (.fn b es)) := by
  obtain ⟨h1, h2, h3⟩ := bf_boot b
  have hm : X.mg (bfN b) = none := g.blt _ (by cases b <;> decide +kernel)
  have hc := call_fnD (X := X) g.K g.calm b
  have key : PE X (.Call (.Name (bfN b) p) (e :: as) [] pos) (tCB (rC Γ (fnD b)) (TL Γ Φ W es)) := by
    cases b
    · exact pe_callB hc (glOf hg) hm h1 ha h2 h3 (star_ok hs) (hn _ _)
    · exact pe_callTy hc (glOf hg) hm h1 ha h2 h3 (star_ok hs) (hn _ _)
    · exact pe_callTy hc (glOf hg) hm h1 ha h2 h3 (star_ok hs) (hn _ _)
    · exact pe_callTy hc (glOf hg) hm h1 ha h2 h3 (star_ok hs) (hn _ _)
    · exact pe_callB hc (glOf hg) hm h1 ha h2 h3 (star_ok hs) (hn _ _)
    · exact pe_callB hc (glOf hg) hm h1 ha h2 h3 (star_ok hs) (hn _ _)
  refine key.imp fun σ H Q ⟨al, ρ, S, w, r, h⟩ => TL_of w r (Post.bind h) fun ds al' S' H' vs x w' r' rv q => ⟨_, al', S', ds, w', rv, q⟩

/-! ### isinstance, methods -/
theorem ty_boot (t : Ty) : ∃ T, bootBuiltins (tyN t) = some (.type T) ∧ (T = "int" ∧ t = .int ∨ T = "bool" ∧ t = .bool ∨ T = "str" ∧ t = .str ∨ T = "tuple" ∧ t = .tuple ∨ T = "list" ∧ t = .list) ∧ tyN t ≠ "__name__" ∧ (tyN t == ("__debug__" : Str)) = false := by
  cases t
  · exact ⟨"int", by decide +kernel, .inl ⟨rfl, rfl⟩, by decide +kernel, by decide +kernel⟩
  · exact ⟨"bool", by decide +kernel, .inr (.inl ⟨rfl, rfl⟩), by decide +kernel, by decide +kernel⟩
  · exact ⟨"str", by decide +kernel, .inr (.inr (.inl ⟨rfl, rfl⟩)), by decide +kernel, by decide +kernel⟩
  · exact ⟨"tuple", by decide +kernel, .inr (.inr (.inr (.inl ⟨rfl, rfl⟩))), by decide +kernel, by decide +kernel⟩
  · exact ⟨"list", by decide +kernel, .inr (.inr (.inr (.inr ⟨rfl, rfl⟩))), by decide +kernel, by decide +kernel⟩
def tyS : Ty → String | .int => "int" | .bool => "bool" | .str => "str" | .tuple => "tuple" | .list => "list"
theorem kit_int (t : Ty) : kitB "int" (tyS t) = some (match t with | .int => true | _ => false) := by cases t <;> decide +kernel
theorem kit_bool (t : Ty) : kitB "bool" (tyS t) = some (match t with | .int => true | .bool => true | _ => false) := by cases t <;> decide +kernel
theorem kit_str (t : Ty) : kitB "str" (tyS t) = some (match t with | .str => true | _ => false) := by cases t <;> decide +kernel
theorem kit_none (t : Ty) : kitB "NoneType" (tyS t) = some false := by cases t <;> decide +kernel
theorem kit_tup (t : Ty) : kitB "tuple" (tyS t) = some (match t with | .tuple => true | _ => false) := by cases t <;> decide +kernel
theorem kit_lst (t : Ty) : kitB "list" (tyS t) = some (match t with | .list => true | _ => false) := by cases t <;> decide +kernel
theorem ty_bootS (t : Ty) : bootBuiltins (tyN t) = some (.type (tyS t)) ∧ tyN t ≠ "__name__" ∧ (tyN t == ("__debug__" : Str)) = false := by
  cases t <;> decide +kernel
theorem isi_v {K : PySem.W.Frag} {Ta al : List Addr} {S : Store} {H : Hp} {d : D} {v : V} {b : Bool} {t : Ty} (w : WI K Ta al S H) (r : RV K al H d v) (h : isiD S d t = some b) : ∃ a, TyX K H v (.type a) ∧ kitB a (tyS t) = some b := by
  cases d with
  | non => cases r; cases h; exact ⟨_, .base .non, kit_none t⟩
  | bl c => cases r; exact ⟨_, .base (.bl _), (kit_bool t).trans h⟩
  | int i => cases r; exact ⟨_, .base (.int _), (kit_int t).trans h⟩
  | str x => cases r; exact ⟨_, .base (.str _), (kit_str t).trans h⟩
  | tup xs =>
    cases r with | tup h1 r1 =>
    refine ⟨"tuple", ?_, (kit_tup t).trans h⟩
    rcases h1 with (h1 | ⟨o, h1⟩) | ⟨o, its, n, h1, h2, _⟩
    · exact .base (.tup h1)
    · exact .fTuple h1
    · exact .kTuple h1 h2
  | ref n =>
    change Option.map _ (listAt S n) = some b at h
    cases e : listAt S n with
    | none => rw [e] at h; cases h
    | some xs =>
      rw [e] at h
      obtain ⟨a, vs, e', z, q⟩ := w.list e
      cases r with | ref e2 =>
      rw [e'] at e2; cases e2
      refine ⟨"list", ?_, (kit_lst t).trans h⟩
      rcases z with (h1 | ⟨o, h1⟩) | ⟨o, its, n, h1, h2, _⟩
      · exact .base (.lst h1)
      · exact .base (.frz h1)
      · exact .kList h1 h2
theorem s_isi {a : E} {t : Ty} {p p2 : Pos} {e : Expr} (g : G Γ Φ X W lv) (hg : glB X.env.scope "isinstance" = true) (hg2 : glB X.env.scope (tyN t) = true) (ha : PE X e (T Γ Φ W a)) (hs : starB e = false) :
    PE X (.Call (.Name "isinstance" p) [e, .Name (tyN t) p2] [] pos) (T Γ Φ W (.isi a t)) := by
  obtain ⟨h1, h2, h3⟩ := ty_bootS t
  have hm : X.mg "isinstance" = none := g.blt _ (by decide +kernel)
  have hm2 : X.mg (tyN t) = none := g.blt _ (by cases t <;> decide +kernel)
  have pt : PE X (.Name (tyN t) p2) (tC (.ty (tyS t))) := pe_bltn (glOf hg2) hm2 h1 rfl h2 h3
  refine (pe_callB call_isi (glOf hg) hm (by decide +kernel) (pa_cons ha (pa_cons pt pa_nil (star_ok rfl)) (star_ok hs)) (by decide +kernel) (by decide +kernel) (star_ok hs) rfl).imp fun σ H Q ⟨al, ρ, S, w, r, h⟩ => T_of w r (Post.bind h) fun d al' S' H' v x w' r' rv q => ?_
  obtain ⟨b, e1, q⟩ := Post.ofO w' q
  cases hb : isiD S' d t with
  | none => rw [hb] at e1; cases e1
  | some c =>
    rw [hb] at e1; cases e1
    obtain ⟨T', h4, h5⟩ := isi_v w' rv hb
    exact ⟨v, .ty (tyS t), .type T', .type (tyS t), c, rfl, .ty _, by rw [g.K]; exact h4, kit_ty h5, q _ (.bl _)⟩
theorem lst_ty {K : PySem.W.Frag} {Ta al : List Addr} {S : Store} {H : Hp} {d : D} {v : V} (w : WI K Ta al S H) (r : RV K al H d v) (h : isLst S d = true) : ∃ n xs a vs, d = .ref n ∧ S[n]? = some (.lst xs) ∧ v = .ref a ∧ al[n]? = some a ∧ H a = some (.lst vs) ∧ RVs K al H xs vs := by
  cases d with
  | ref n =>
    have h : (match S[n]? with | some (.lst _) => true | _ => false) = true := h
    split at h
    · rename_i xs e
      obtain ⟨a, e', z⟩ := w.get e
      obtain ⟨vs, z, q⟩ := z
      cases r with | ref e2 => rw [e'] at e2; cases e2; exact ⟨n, xs, _, vs, rfl, e, rfl, e', z, q⟩
    · cases h
  | _ => cases h
theorem app_inv {n : Nat} {ds : List D} {S : Store} (h : mthD .append (.ref n) ds S ≠ .bad) : ∃ xs d, ds = [d] ∧ S[n]? = some (.lst xs) ∧ xs.length < sizeLine ∧ mthD .append (.ref n) ds S = .ok .non (S.set n (.lst (xs ++ [d]))) := by
  cases e : S[n]? with
  | none => simp [mthD, e] at h
  | some o =>
    cases o with
    | lst xs =>
      match ds with
      | [] => simp [mthD, e] at h
      | [d] =>
        by_cases hz : xs.length < sizeLine
        · exact ⟨xs, d, rfl, rfl, hz, by simp [mthD, e, hz]⟩
        · simp [mthD, e, hz] at h
      | _ :: _ :: _ => simp [mthD, e] at h
    | frz xs => simp [mthD, e] at h
    | dct xs => simp [mthD, e] at h
theorem s_append {o a : E} {x : Str} {p ap cp : Pos} {e : Expr} (g : G Γ Φ X W lv) (ho : PE X (.Name x p) (T Γ Φ W o)) (ha : PA X [e] (TL Γ Φ W a)) (hs : starB e = false) (hl : (ap.endLine == cp.line) = true) :
    PE X (.Call (.Attribute (.Name x p) "append" ap) [e] [] cp) (T Γ Φ W (.mth .append o a)) := by
  refine (pe_bm (T := "list") PySem.F.plainAttrs_list PySem.F.slot_list_append PySem.F.type_list_append mt_append ho ha rfl (by rw [star_ok hs]; rfl) hl (star_ok hs) rfl).imp fun σ H Q ⟨al, ρ, S, w, r, h⟩ => T_of w r (Post.bind h) fun d al' S' H' v x w' r' rv q => ?_
  by_cases hd : isLst S' d = true
  · rw [if_pos hd] at q
    obtain ⟨n, xs, a, vs, rfl, e1, rfl, e2, e3, r3⟩ := lst_ty w' rv hd
    refine ⟨.inl ⟨rfl, _, SqL.of e3⟩, TL_of w' r' (Post.bind q) fun ds al2 S2 H2 ws x2 w2 r2 rvs q2 => ?_⟩
    obtain ⟨xs', d', rfl, e4, hz, e8⟩ := app_inv (fun z => by rw [z] at q2; exact q2)
    rw [e8] at q2
    obtain ⟨y, rfl, ry⟩ := rvs.one
    obtain ⟨b, us, e5, e6, e7, r7⟩ := w2.lstAt e4 ((RV.ref e2).ext w' x2)
    cases e5
    refine ⟨_, us, y, rfl, rfl, e7, by rw [← r7.length]; exact hz, ?_⟩
    have hT : ∀ b ys, SqT Γ.K H2 b ys → SqT Γ.K (upd H2 a (.lst (us ++ [y]))) b ys := fun _ _ z => sqT_put w2 e6 z
    exact q2 al2 _ (.put e6) (w2.put e6 ⟨_, upd_same, (r7.mono hT (List.prefix_refl _)).append ((RVs.cons ry .nil).mono hT (List.prefix_refl _))⟩) _ .non
  · rw [if_neg hd] at q; exact q.elim
theorem s_pop {o : E} {x : Str} {p ap cp : Pos} (g : G Γ Φ X W lv) (ho : PE X (.Name x p) (T Γ Φ W o)) (hl : (ap.endLine == cp.line) = true) :
    PE X (.Call (.Attribute (.Name x p) "pop" ap) [] [] cp) (T Γ Φ W (.mth .pop o .nil)) := by
  refine (pe_bm0 (T := "list") PySem.F.plainAttrs_list PySem.F.slot_list_pop PySem.F.type_list_pop mt_pop ho rfl hl).imp fun σ H Q ⟨al, ρ, S, w, r, h⟩ => T_of w r (Post.bind h) fun d al' S' H' v x w' r' rv q => ?_
  by_cases hd : isLst S' d = true
  · rw [if_pos hd] at q
    obtain ⟨n, xs, a, vs, rfl, e1, rfl, e2, e3, r3⟩ := lst_ty w' rv hd
    refine ⟨.inl ⟨rfl, _, SqL.of e3⟩, ?_⟩
    have q : Post Γ (fun c d H => W c d σ H) al' H' (match Mt.pop, S'[n]?, ([] : List D) with
      | .append, some (.lst xs), [d] => if xs.length < sizeLine then .ok .non (S'.set n (.lst (xs ++ [d]))) else .bad
      | .pop, some (.lst xs), [] => match xs[xs.length - 1]? with
        | some d => .ok d (S'.set n (.lst xs.dropLast))
        | none => .bad
      | _, _, _ => .bad) (KV' Γ Q) := q
    rw [e1] at q
    simp only at q
    split at q
    · rename_i d' e4
      obtain ⟨y, e5, ry⟩ := r3.get e4
      refine ⟨_, vs, y, rfl, rfl, e3, by rw [← r3.length]; exact e5, ?_⟩
      have hT : ∀ b ys, SqT Γ.K H' b ys → SqT Γ.K (upd H' a (.lst vs.dropLast)) b ys := fun _ _ z => sqT_put w' e2 z
      exact q al' _ (.put e2) (w'.put e2 ⟨_, upd_same, r3.dropLast.mono hT (List.prefix_refl _)⟩) _ (ry.mono hT (List.prefix_refl _))
    · exact q.elim
  · rw [if_neg hd] at q; exact q.elim
end
end Mi
set_option autoImplicit true
set_option Elab.async false
set_option linter.all false
set_option maxRecDepth 100000
set_option maxHeartbeats 2000000
/-! MiB6: what loops walk, targets, list comprehensions. -/
namespace Mi
open PySem PySem.Spec PyProof.Rows L2
/-- J hands out these items, from al1, H1 on -/
def Iw (Γ : Gam) (al1 : List Addr) (H1 : Hp) (J : It) (its : Items) : Prop := ∀ al S H, Ext al1 H1 al H → WI Γ.K Γ.T al S H → still its.1 S →
  (∀ (i : Nat) (x : D), its.2[i]? = some x → J.go i H ∧ ∀ v H', J.yld i H v H' → Ext al H al H' ∧ WI Γ.K Γ.T al S H' ∧ RV Γ.K al H' x v) ∧ J.stop its.2.length H
def TIt (Γ : Gam) (Φ : Orc) (W : WX) (m : E) : TI := fun σ H R => ∃ al ρ S, WI Γ.K Γ.T al S H ∧ RE Γ.K al H ρ σ ∧ Post Γ (fun c d H => W c d σ H) al H (evIt Φ m ρ S) (fun its al' _ H' => ∀ J, Iw Γ al' H' J its → R J H')
def tgS : Tg → List Nat | .nm i => [i] | .tup is => is
/-- a target's reading -/
def TGm (Γ : Gam) (g : Tg) : TG := fun v σ H Q => ∃ al d ρ ρ', RE Γ.K al H ρ σ ∧ RV Γ.K al H d v ∧ asg g d ρ = some ρ' ∧ ∀ σ', RE Γ.K al H ρ' σ' → σ'.length = σ.length → (∀ j, j ∉ tgS g → σ'[j]? = σ[j]?) → Q σ' H
section
variable {X : Cx} {Γ : Gam} {Φ : Orc} {W : WX} {pos : Pos} {tg : Expr} {lv : Nat}
theorem _root_.L2.PI.imp {e : Expr} {t t' : TI} (h : PI X tg e t) (i : ∀ σ H Q, t' σ H Q → t σ H Q) : PI X tg e t' := ⟨fun pins s σ H Q I w => h.run pins s σ H Q I (i _ _ _ w)⟩
theorem _root_.L2.PG.imp {t t' : TG} (h : PG X tg t) (i : ∀ v σ H Q, t' v σ H Q → t v σ H Q) : PG X tg t' := ⟨fun pins s σ H v u Q I r w => h.run pins s σ H v u Q I r (i _ _ _ _ w)⟩
theorem TIt_of {m : E} {σ : L2.St} {H : Hp} {R : It → Hp → Prop} {al : List Addr} {ρ : Env} {S : Store} (w : WI Γ.K Γ.T al S H) (r : RE Γ.K al H ρ σ) {k : Items → List Addr → Store → Hp → Prop}
    (h : Post Γ (fun c d H => W c d σ H) al H (evIt Φ m ρ S) k) (i : ∀ its al' S' H' J, Ext al H al' H' → WI Γ.K Γ.T al' S' H' → RE Γ.K al' H' ρ σ → Iw Γ al' H' J its → k its al' S' H' → R J H') : TIt Γ Φ W m σ H R :=
  ⟨al, ρ, S, w, r, h.imp fun d al' S' H' x w' z J hJ => i d al' S' H' J x w' (r.ext w x) hJ z⟩
theorem iw_list {al : List Addr} {S : Store} {H : Hp} {n : Nat} {xs : List D} {a : Addr} (w : WI Γ.K Γ.T al S H) (hx : listAt S n = some xs) (ha : al[n]? = some a) : Iw Γ al H (Itl Γ.K a) (some (n, xs), xs) := by
  intro al' S' H' x w' hs
  have hs : listAt S' n = some xs := hs
  obtain ⟨a', vs, e, z, q⟩ := w'.list hs
  rw [pre_get x.pre ha] at e
  cases e
  refine ⟨fun i d hd => ?_, ⟨vs, z, by rw [← q.length]; exact Nat.le_refl _⟩⟩
  obtain ⟨v, e, rv⟩ := q.get hd
  refine ⟨⟨vs, v, z, e⟩, fun v' H'' y => ?_⟩
  obtain ⟨rfl, y⟩ := y
  have := y vs z
  rw [e] at this
  cases this
  exact ⟨.refl, w', rv⟩
theorem iw_tup {al : List Addr} {S : Store} {H : Hp} {xs : List D} {vs : List V} {a : Addr} (w : WI Γ.K Γ.T al S H) (h1 : SqT Γ.K H a vs) (r : RVs Γ.K al H xs vs) : Iw Γ al H (Itt Γ.K a) (none, xs) := by
  intro al' S' H' x w' hs
  have z := w.sqT x h1
  have q := r.ext w x
  refine ⟨fun i d hd => ?_, ⟨vs, z, by rw [← q.length]; exact Nat.le_refl _⟩⟩
  obtain ⟨v, e, rv⟩ := q.get hd
  refine ⟨⟨vs, v, z, e⟩, fun v' H'' y => ?_⟩
  obtain ⟨rfl, y⟩ := y
  have := y vs z
  rw [e] at this
  cases this
  exact ⟨.refl, w', rv⟩
theorem iw_rng {al : List Addr} {S : Store} {H : Hp} {lo : Int} {n : Nat} : Iw Γ al H (Itr lo n) (none, (List.range n).map fun (i : Nat) => .int (lo + (i : Int))) := by
  intro al' S' H' x w' hs
  refine ⟨fun i d hd => ?_, by show n ≤ _; simp⟩
  rw [List.getElem?_map] at hd
  cases e : (List.range n)[i]? with
  | none => rw [e] at hd; cases hd
  | some j =>
    rw [e] at hd
    have hj := List.getElem?_eq_some_iff.mp e
    obtain ⟨h1, h2⟩ := hj
    rw [List.getElem_range] at h2
    subst h2
    cases hd
    refine ⟨(by simpa using h1 : i < n), fun v H'' y => ?_⟩
    obtain ⟨rfl, rfl⟩ := y
    exact ⟨.refl, w', .int _⟩
/-- a list or a tuple that is walked -/
theorem si_seq {a : E} {e : Expr} (g : G Γ Φ X W lv) (ha : PE X e (T Γ Φ W a)) : PI X tg e (TIt Γ Φ W (.itSeq a)) := by
  have key : PI X tg e (fun σ H R => T Γ Φ W a σ H fun x H1 => ∃ b, x = .ref b ∧ ((∃ xs, SqL X.K H1 b xs ∧ R (Itl X.K b) H1) ∨ ∃ xs, SqT X.K H1 b xs ∧ R (Itt X.K b) H1)) := by
    refine ⟨fun pins s σ H R I h => ?_⟩
    refine thn (ha.run pins s σ H _ I h) fun v s1 ⟨x, H1, I1, r1, q1⟩ => ?_
    obtain ⟨b, rfl, q⟩ := q1
    cases r1
    rcases q with ⟨xs, hq, q⟩ | ⟨xs, hq, q⟩
    · obtain ⟨its, rv, p, hz⟩ := I1.list hq
      refine wpAny_pyIter_list p.isList ?_
      refine ⟨s1.heap.objs.size, [s1.heap.objs.size], _, _, H1, rfl, I1.kept (t' := s1.toks) fun b o e => Heap.get?_push_of_some _ e, turn_list b _, ⟨_, Heap.get?_push_size _ rfl, rfl, rfl⟩, fun c hc => ?_, q⟩
      have e : c = s1.heap.objs.size := by simpa using hc
      subst e
      exact I1.fpOk (Nat.le_refl _) (I1.hok.fresh (Nat.le_refl _))
    · obtain ⟨its, rv, p, hz⟩ := I1.tuple hq
      refine wpAny_pyIter_tuple (show s1.heap.IsTuple b its.toArray from p) ?_
      refine ⟨s1.heap.objs.size, [s1.heap.objs.size], _, _, H1, rfl, I1.kept (t' := s1.toks) fun b o e => Heap.get?_push_of_some _ e, turn_tuple b _, ⟨_, Heap.get?_push_size _ rfl, rfl, rfl⟩, fun c hc => ?_, q⟩
      have e : c = s1.heap.objs.size := by simpa using hc
      subst e
      exact I1.fpOk (Nat.le_refl _) (I1.hok.fresh (Nat.le_refl _))
  refine key.imp fun σ H R ⟨al, ρ, S, w, r, h⟩ => T_of w r (Post.bind h) fun d al' S' H' v x w' r' rv q => ?_
  obtain ⟨its, e1, q⟩ := Post.ofO w' q
  rw [g.K]
  cases d with
  | tup xs =>
    cases e1
    cases rv with | tup h1 r1 => exact ⟨_, rfl, .inr ⟨_, h1, q _ (iw_tup w' h1 r1)⟩⟩
  | ref n =>
    have e1 : (listAt S' n).map (fun xs => (some (n, xs), xs)) = some its := e1
    cases e : listAt S' n with
    | none => rw [e] at e1; cases e1
    | some xs =>
      rw [e] at e1
      cases e1
      cases rv with | ref e2 =>
      obtain ⟨b, vs, e3, z, r3⟩ := w'.list e
      rw [e3] at e2; cases e2
      exact ⟨_, rfl, .inl ⟨vs, z, q _ (iw_list w' e e3)⟩⟩
  | _ => cases e1
theorem si_rng1 {m : E} {p : Pos} {a : Expr} (g : G Γ Φ X W lv) (hg : glB X.env.scope "range" = true) (ha : PE X a (T Γ Φ W m)) (hs : starB a = false) :
    PI X tg (.Call (.Name "range" p) [a] [] pos) (TIt Γ Φ W (.itRng1 m)) := by
  have hm : X.mg "range" = none := g.blt _ (by decide +kernel)
  refine (pi_range1 (glOf hg) hm (pa_cons ha pa_nil (star_ok hs)) (star_ok hs)).imp fun σ H R ⟨al, ρ, S, w, r, h⟩ => T_of w r (Post.bind h) fun d al' S' H' v x w' r' rv q => ?_
  obtain ⟨its, e1, q⟩ := Post.ofO w' q
  cases d with
  | int n =>
    cases rv
    have e1 : ((if n < 2 ^ 62 ∧ -(2 ^ 62) ≤ n then some ((List.range n.toNat).map fun (i : Nat) => D.int (i : Int)) else none).map fun xs => ((none : Option (Nat × List D)), xs)) = some its := e1
    split at e1
    · rename_i hc
      cases e1
      refine ⟨n, rfl, hc.2, hc.1, q _ ?_⟩
      have := iw_rng (Γ := Γ) (al := al') (S := S') (H := H') (lo := 0) (n := n.toNat)
      simpa using this
    · cases e1
  | _ => cases e1
theorem si_rng2 {m m' : E} {p : Pos} {a b : Expr} (g : G Γ Φ X W lv) (hg : glB X.env.scope "range" = true) (ha : PE X a (T Γ Φ W m)) (hb : PE X b (T Γ Φ W m')) (hs : starB a = false) (hs' : starB b = false) :
    PI X tg (.Call (.Name "range" p) [a, b] [] pos) (TIt Γ Φ W (.itRng2 m m')) := by
  have hm : X.mg "range" = none := g.blt _ (by decide +kernel)
  refine (pi_range2 (glOf hg) hm (pa_cons ha (pa_cons hb pa_nil (star_ok hs')) (star_ok hs)) (by rw [star_ok hs, star_ok hs']; rfl) (star_ok hs')).imp fun σ H R ⟨al, ρ, S, w, r, h⟩ => T_of w r (Post.bind h) fun d al' S' H' v x w' r' rv q => ?_
  refine T_of w' r' (Post.bind q) fun e al2 S2 H2 u x2 w2 r2 ru q2 => ?_
  obtain ⟨its, e1, q⟩ := Post.ofO w2 q2
  cases d with
  | int n =>
    cases e with
    | int n2 =>
      cases rv
      cases ru
      have e1 : ((if (-(2 ^ 62) ≤ n ∧ n < 2 ^ 62) ∧ (-(2 ^ 62) ≤ n2 ∧ n2 < 2 ^ 62) then some ((List.range (n2 - n).toNat).map fun (i : Nat) => D.int (n + (i : Int))) else none).map fun xs => ((none : Option (Nat × List D)), xs)) = some its := e1
      split at e1
      · rename_i hc
        cases e1
        exact ⟨n, n2, rfl, ⟨hc.1.1, hc.1.2, hc.2.1, hc.2.2⟩, q _ (iw_rng (S := S2))⟩
      · cases e1
    | _ => cases e1
  | _ => cases e1

/-! ### targets -/
theorem RE.set {K : PySem.W.Frag} {al : List Addr} {H : Hp} {ρ : Env} {σ : L2.St} (r : RE K al H ρ σ) {d : D} {v : V} (q : RV K al H d v) (i : Nat) : RE K al H (ρ.set i (some d)) (σ.set i (some v)) := by
  refine ⟨by simp [r.len], fun j e h => ?_⟩
  by_cases hj : i = j
  · subst hj
    by_cases hl : i < ρ.length
    · rw [List.getElem?_set_self hl] at h
      cases h
      exact ⟨v, by rw [List.getElem?_set_self (by rw [← r.len]; exact hl)], q⟩
    · rw [List.getElem?_eq_none (by simpa using hl)] at h; cases h
  · rw [List.getElem?_set_ne hj] at h
    rw [List.getElem?_set_ne hj]
    exact r.at_ j e h
theorem sg_nm {i : Nat} {x : Str} (g : G Γ Φ X W lv) (h1 : X.N[i]? = some x) (h2 : locB X.fn X.env.scope x = true) : PG X (.Name x pos) (TGm Γ (.nm i)) := by
  refine (pg_name g.nd h1 (locOf h2).1 (locOf h2).2).imp fun v σ H Q ⟨al, d, ρ, ρ', r, rv, e, h⟩ => ?_
  cases e
  exact h _ (r.set rv i) (by simp) fun j hj => by rw [List.getElem?_set_ne (by simpa [tgS, eq_comm] using hj)]
/-- names one behind the other -/
def setsV (σ : L2.St) (is : List Nat) (vs : List V) : L2.St := (is.zip vs).foldl (fun r p => r.set p.1 (some p.2)) σ
def setsD (ρ : Env) (is : List Nat) (ds : List D) : Env := (is.zip ds).foldl (fun r p => r.set p.1 (some p.2)) ρ
theorem RE.sets {K : PySem.W.Frag} {al : List Addr} {H : Hp} : ∀ {is : List Nat} {ds : List D} {vs : List V} {ρ : Env} {σ : L2.St}, RE K al H ρ σ → RVs K al H ds vs → RE K al H (setsD ρ is ds) (setsV σ is vs)
  | [], _, _, _, _, r, _ => r
  | _ :: _, _, _, _, _, r, .nil => r
  | i :: is, _, _, _, _, r, .cons q t => RE.sets (is := is) (r.set q i) t
theorem setsV_len : ∀ {is : List Nat} {vs : List V} {σ : L2.St}, (setsV σ is vs).length = σ.length
  | [], _, _ => rfl
  | _ :: _, [], _ => rfl
  | i :: is, v :: vs, σ => by
    show (setsV (σ.set i (some v)) is vs).length = _
    rw [setsV_len]; simp
theorem setsV_ne : ∀ {is : List Nat} {vs : List V} {σ : L2.St} {j : Nat}, j ∉ is → (setsV σ is vs)[j]? = σ[j]?
  | [], _, _, _, _ => rfl
  | _ :: _, [], _, _, _ => rfl
  | i :: is, v :: vs, σ, j, h => by
    show (setsV (σ.set i (some v)) is vs)[j]? = _
    rw [setsV_ne (fun z => h (List.mem_cons_of_mem _ z)), List.getElem?_set_ne (fun z => h (by simp [z]))]
def gNames (is : List Nat) : TGs := fun vs σ H Q => vs.length = is.length ∧ Q (setsV σ is vs) H
theorem _root_.L2.PGs.imp {es : List Expr} {t t' : TGs} (h : PGs X es t) (i : ∀ v σ H Q, t' v σ H Q → t v σ H Q) : PGs X es t' := ⟨fun pins s σ H v u Q I r w => h.run pins s σ H v u Q I r (i _ _ _ _ w)⟩
theorem pgs_names (g : G Γ Φ X W lv) : ∀ {is : List Nat} {es : List Expr}, es.length = is.length → ((is.zip es).all fun p => match p.2 with | .Name x _ => decide (X.N[p.1]? = some x) && locB X.fn X.env.scope x | _ => false) = true →
    PGs X es (gNames is) ∧ (assignEach es X.env).length = is.length ∧ (assignEach es X.env).findIdx? (·.1) = none
  | [], [], _, _ => ⟨pgs_nil.imp fun v σ H Q ⟨e, q⟩ => ⟨List.length_eq_zero_iff.mp e, by
      have := List.length_eq_zero_iff.mp e
      subst this
      exact q⟩, rfl, rfl⟩
  | i :: is, e :: es, hl, h => by
    simp only [List.zip_cons_cons, List.all_cons, Bool.and_eq_true] at h
    obtain ⟨h1, h2⟩ := h
    obtain ⟨p1, p2, p3⟩ := pgs_names g (is := is) (es := es) (by simpa using hl) h2
    cases e with
    | Name x p =>
      simp only [Bool.and_eq_true, decide_eq_true_eq] at h1
      have q := pg_name (pos := p) g.nd h1.1 (locOf h1.2).1 (locOf h1.2).2
      refine ⟨(pgs_cons q p1 rfl).imp fun v σ H Q ⟨e, q⟩ => ?_, ?_, ?_⟩
      · match v, e with
        | v :: vs, e => exact ⟨v, vs, rfl, by simpa using e, q⟩
      · show (_ :: assignEach es X.env).length = _
        simp [p2]
      · show ((false, assign (.Name x p) X.env) :: assignEach es X.env).findIdx? (·.1) = none
        rw [List.findIdx?_cons]
        simp [p3]
    | _ => cases h1
theorem sg_tup {is : List Nat} {es : List Expr} {k : Nat} (g : G Γ Φ X W lv) (hl : es.length = is.length) (h : ((is.zip es).all fun p => match p.2 with | .Name x _ => decide (X.N[p.1]? = some x) && locB X.fn X.env.scope x | _ => false) = true) :
    PG X (.Tuple es k pos) (TGm Γ (.tup is)) := by
  obtain ⟨p1, p2, p3⟩ := pgs_names g hl h
  refine (pg_tup g.calm p1 p2 p3).imp fun v σ H Q ⟨al, d, ρ, ρ', r, rv, e, h⟩ => ?_
  cases d with
  | tup ds =>
    have e : (if is.length = ds.length then some (setsD ρ is ds) else none) = some ρ' := e
    split at e
    · rename_i hz
      cases e
      cases rv with | tup h1 r1 =>
      rw [g.K]
      refine ⟨_, _, rfl, h1, by rw [← r1.length, hz], by rw [← r1.length, hz], h _ (r.sets r1) setsV_len fun j hj => setsV_ne hj⟩
    · cases e
  | _ => cases e
theorem sg {t : Tg} (g : G Γ Φ X W lv) (h : tgB X.fn X.N X.env.scope t tg = true) : PG X tg (TGm Γ t) := by
  cases t with
  | nm i =>
    cases tg with
    | Name x p =>
      have h : (decide (X.N[i]? = some x) && locB X.fn X.env.scope x) = true := h
      simp only [Bool.and_eq_true, decide_eq_true_eq] at h
      exact sg_nm g h.1 h.2
    | _ => cases h
  | tup is =>
    cases tg with
    | Tuple es k p =>
      have h : (es.length == is.length && (is.zip es).all fun p => match p.2 with | .Name x _ => decide (X.N[p.1]? = some x) && locB X.fn X.env.scope x | _ => false) = true := h
      rw [Bool.and_eq_true] at h
      exact sg_tup g (eq_of_beq h.1) h.2
    | _ => cases h
end
end Mi
set_option autoImplicit true
set_option Elab.async false
set_option linter.all false
set_option maxRecDepth 100000
set_option maxHeartbeats 2000000
/-! MiB7: list comprehensions. -/
namespace Mi
open PySem PySem.Spec PyProof.Rows L2
abbrev WF : WX := fun _ _ _ _ => False
abbrev XF : XK := fun _ _ _ => False
section
variable {X : Cx} {Γ : Gam} {Φ : Orc} {W : WX} {pos : Pos} {tg : Expr} {lv : Nat}
section
variable {K : PySem.W.Frag} {Ta al al' : List Addr} {S : Store} {H H' : Hp}
/-- an object that the store does not hold changes -/
theorem WI.aside (w : WI K Ta al S H) {D : Addr} {xs ys : List V} (hD : D ∉ al) (e : H D = some (.lst xs)) : WI K Ta al S (upd H D (.lst ys)) ∧ ∀ a zs, SqT K H a zs → SqT K (upd H D (.lst ys)) a zs := by
  have hT : ∀ a zs, SqT K H a zs → SqT K (upd H D (.lst ys)) a zs := fun a zs z => by
    rcases z with (z | ⟨u, z⟩) | z
    · exact .inl (.inl (by rw [upd_ne (ne_of z e (by intro q; cases q))]; exact z))
    · exact .inl (.inr ⟨u, by rw [upd_ne (ne_of z e (by intro q; cases q))]; exact z⟩)
    · exact .inr z
  exact ⟨⟨w.len, w.nd, fun n o a h1 h2 => (w.ob n o a h1 h2).mono (upd_ne fun z => hD (by rw [← z]; exact List.mem_of_getElem? h2)) hT (List.prefix_refl _), fun p hp => let ⟨ps, e2, t⟩ := w.tab p hp; ⟨ps, by rw [upd_ne (ne_of e2 e (by intro q; cases q))]; exact e2, t⟩⟩, hT⟩
/-- an object that stands already comes into the store -/
theorem WI.add (w : WI K Ta al S H) {D : Addr} {ob : Ob} (hD : D ∉ al) (r : RO K (al ++ [D]) H D ob) : WI K Ta (al ++ [D]) (S ++ [ob]) H where
  len := by simp [w.len]
  nd := by
    rw [List.nodup_append]
    exact ⟨w.nd, by simp, fun a ha b hb z => by rw [List.mem_singleton.mp hb] at z; exact hD (by rw [← z]; exact ha)⟩
  ob := fun n u a h1 h2 => by
    by_cases hn : n < S.length
    · rw [List.getElem?_append_left hn] at h1
      rw [List.getElem?_append_left (by rw [w.len]; exact hn)] at h2
      exact (w.ob n u a h1 h2).mono rfl (fun _ _ h => h) (List.prefix_append _ _)
    · have hl := (List.getElem?_eq_some_iff.mp h1).1
      simp at hl
      have e : n = S.length := by omega
      subst e
      rw [List.getElem?_append_right (Nat.le_refl _), Nat.sub_self] at h1
      have h1 : some ob = some u := h1
      cases h1
      rw [List.getElem?_append_right (by rw [w.len]; exact Nat.le_refl _), w.len, Nat.sub_self] at h2
      have h2 : some D = some a := h2
      cases h2
      exact r
  tab := w.tab
theorem RE.wipe {ρ : Env} {σ : L2.St} (r : RE K al H ρ σ) : ∀ (vs : List Nat), RE K al H (wipeE ρ vs) (L2.wipe σ vs)
  | [] => r
  | v :: vs => by
    have q := RE.wipe r vs
    refine ⟨by show (((wipeE ρ vs).set v none).length) = _; unfold L2.wipe; simp [q.len], fun i d h => ?_⟩
    have h : ((wipeE ρ vs).set v none)[i]? = some (some d) := h
    show ∃ u, ((L2.wipe σ vs).set v none)[i]? = some (some u) ∧ _
    by_cases hi : v = i
    · subst hi
      by_cases hl : v < (wipeE ρ vs).length
      · rw [List.getElem?_set_self hl] at h; cases h
      · rw [List.getElem?_eq_none (by simpa using hl)] at h; cases h
    · rw [List.getElem?_set_ne hi] at h
      rw [List.getElem?_set_ne hi]
      exact q.at_ i d h
end
theorem wipe_get {σ : L2.St} {vs : List Nat} {i : Nat} : (L2.wipe σ vs)[i]? = if i ∈ vs ∧ i < σ.length then some none else σ[i]? := by
  induction vs with
  | nil => simp [L2.wipe]
  | cons v vs ih =>
    show ((L2.wipe σ vs).set v none)[i]? = _
    by_cases hi : v = i
    · subst hi
      by_cases hl : v < σ.length
      · rw [List.getElem?_set_self (by rw [wipe_length]; exact hl)]
        simp [hl]
      · rw [List.getElem?_eq_none (by simp [wipe_length]; omega), if_neg (fun z => hl z.2), List.getElem?_eq_none (by omega)]
    · rw [List.getElem?_set_ne hi, ih]
      have : (i ∈ v :: vs) ↔ i ∈ vs := by simp [Ne.symm hi]
      simp only [this]
theorem wipe_same {σ τ : L2.St} {vs gs : List Nat} (hl : τ.length = (L2.wipe σ vs).length) (h : ∀ j, j ∉ gs → τ[j]? = (L2.wipe σ vs)[j]?) (hs : ∀ j ∈ gs, j ∈ vs) : L2.wipe τ vs = L2.wipe σ vs := by
  have hl' : τ.length = σ.length := hl.trans (wipe_length _ _)
  apply List.ext_getElem?
  intro i
  rw [wipe_get, wipe_get, hl']
  by_cases hi : i ∈ vs
  · by_cases hz : i < σ.length
    · rw [if_pos ⟨hi, hz⟩, if_pos ⟨hi, hz⟩]
    · rw [if_neg (fun z => hz z.2), if_neg (fun z => hz z.2), List.getElem?_eq_none (by omega), List.getElem?_eq_none (by omega)]
  · rw [if_neg (fun z => hi z.1), if_neg (fun z => hi z.1), h i (fun z => hi (hs i z)), wipe_get, if_neg (fun z => hi z.1)]
/-- the step of a comprehension -/
noncomputable def stepOf (Φ : Orc) (ρ : Env) (g : Tg) (ifs elt : E) : D → M (Option D) := fun x S => match asg g x ρ with
  | some ρ' => (evAll Φ ifs ρ' S).bind fun b S => if b = true then (ev Φ elt ρ' S).bind fun y S => .ok (some y) S else .ok none S
  | none => .bad
theorem ev_lc {own : List Nat} {g : Tg} {it ifs elt : E} {ρ : Env} {S : Store} : ev Φ (.lc own g it ifs elt) ρ S = (evIt Φ it ρ S).bind fun its S =>
    (comp its.1 (stepOf Φ (wipeE ρ own) g ifs elt) its.2 [] S).bind fun acc S => .ok (.ref S.length) (S ++ [.lst acc]) := rfl
theorem comp_nil {g : Option (Nat × List D)} {step : D → M (Option D)} {acc : List D} {S : Store} (h : comp g step [] acc S ≠ .bad) : still g S ∧ comp g step [] acc S = .ok acc S := by
  by_cases hs : still g S
  · exact ⟨hs, by unfold comp; rw [if_pos hs]⟩
  · exact absurd (by unfold comp; rw [if_neg hs]) h
theorem comp_cons {g : Option (Nat × List D)} {step : D → M (Option D)} {x : D} {xs acc : List D} {S : Store} (h : comp g step (x :: xs) acc S ≠ .bad) : still g S ∧
    ((∃ y S', step x S = .ok (some y) S' ∧ acc.length < sizeLine ∧ comp g step (x :: xs) acc S = comp g step xs (acc ++ [y]) S') ∨ ∃ S', step x S = .ok none S' ∧ comp g step (x :: xs) acc S = comp g step xs acc S') := by
  by_cases hs : still g S
  · refine ⟨hs, ?_⟩
    have e : comp g step (x :: xs) acc S = (match step x S with
      | .ok (some y) S' => if acc.length < sizeLine then comp g step xs (acc ++ [y]) S' else .bad
      | .ok none S' => comp g step xs acc S'
      | _ => .bad) := by
      rw [comp]
      refine (if_pos hs).trans ?_
      cases step x S with
      | ok o S' => cases o <;> rfl
      | _ => rfl
    rw [e] at h ⊢
    cases z : step x S with
    | ok o S' =>
      cases o with
      | some y =>
        rw [z] at h
        by_cases hz : acc.length < sizeLine
        · exact .inl ⟨y, S', rfl, hz, by simp only; rw [if_pos hz]⟩
        · exact absurd (by simp only; rw [if_neg hz]) h
      | none => exact .inr ⟨S', rfl, rfl⟩
    | ex c v S' => rw [z] at h; exact absurd rfl h
    | bad => rw [z] at h; exact absurd rfl h
  · exact absurd (by rw [comp]; rw [if_neg hs]) h
/-- a step, read -/
theorem step_read {g : Tg} {ifs elt : E} {ρ : Env} {σ : L2.St} {x : D} {v : V} {al : List Addr} {S : Store} {H : Hp} {k : Option D → List Addr → Store → Hp → Prop}
    (w : WI Γ.K Γ.T al S H) (r : RE Γ.K al H ρ σ) (rv : RV Γ.K al H x v) (h : Post Γ XF al H (stepOf Φ ρ g ifs elt x S) k) (Q : L2.St → Hp → Prop)
    (hQ : ∀ ρ' σ', RE Γ.K al H ρ' σ' → σ'.length = σ.length → (∀ j, j ∉ tgS g → σ'[j]? = σ[j]?) →
      Post Γ XF al H (evAll Φ ifs ρ' S) (fun b al' S' H' => if b = true then Post Γ XF al' H' (ev Φ elt ρ' S') (fun y al'' S'' H'' => k (some y) al'' S'' H'') else k none al' S' H') → Q σ' H) : TGm Γ g v σ H Q := by
  cases e : asg g x ρ with
  | none =>
    exfalso
    unfold stepOf at h
    rw [e] at h
    exact h
  | some ρ' =>
    refine ⟨al, x, ρ, ρ', r, rv, e, fun σ' r' hl hj => hQ ρ' σ' r' hl hj ?_⟩
    have h : Post Γ XF al H ((evAll Φ ifs ρ' S).bind fun b S => if b = true then (ev Φ elt ρ' S).bind fun y S => .ok (some y) S else .ok none S) k := by
      unfold stepOf at h
      rw [e] at h
      exact h
    refine (Post.bind h).imp fun b al' S' H' x' w' q => ?_
    cases b with
    | true =>
      rw [if_pos rfl]
      rw [if_pos rfl] at q
      exact (Post.bind q).imp fun y al2 S2 H2 x2 w2 q2 => q2.ok w2
    | false =>
      rw [if_neg Bool.false_ne_true]
      rw [if_neg Bool.false_ne_true] at q
      exact q.ok w'
theorem lc_read {own : List Nat} {g : Tg} {it ifs elt : E} {σ : L2.St} {H : Hp} {Q : VK} (hgs : ∀ j ∈ tgS g, j ∈ own) (h : T Γ Φ W (.lc own g it ifs elt) σ H Q) :
    tLc (TIt Γ Φ W it) (TGm Γ g) (TTAll Γ Φ WF ifs) (T Γ Φ WF elt) ((own.map fun i => (X.N.getD i "", i)).map (·.2)) σ H Q := by
  obtain ⟨al, ρ, S, w, r, h⟩ := h
  have eo : (own.map fun i => (X.N.getD i "", i)).map (·.2) = own := by simp [List.map_map, Function.comp_def]
  rw [ev_lc] at h
  refine TIt_of w r (Post.bind h) fun its al1 S1 H1 J x1 w1 r1 hJ q1 D hD => ?_
  rw [eo]
  generalize hst : stepOf Φ (wipeE ρ own) g ifs elt = step at q1
  have hnb : comp its.1 step its.2 [] S1 ≠ .bad := fun z => by rw [z] at q1; exact q1
  refine ⟨fun i m H => m = its.2.length - i ∧ i ≤ its.2.length ∧ ∃ al S acc accV, Ext al1 H1 al H ∧ WI Γ.K Γ.T al S H ∧ D ∉ al ∧ H D = some (.lst accV) ∧ RVs Γ.K al H acc accV ∧ comp its.1 step its.2 [] S1 = comp its.1 step (its.2.drop i) acc S,
    ⟨its.2.length, by simp, Nat.zero_le _, al1, S1, [], [], .tup hD, w1.tup hD, fun z => w1.there z hD, upd_same, .nil, by simp⟩, ?_⟩
  rintro i m H2 ⟨rfl, hi, al2, S2, acc, accV, x2, w2, hD2, eD, ra, ec⟩
  have iw := hJ al2 S2 H2 x2 w2
  by_cases hlt : i < its.2.length
  · obtain ⟨x, hx⟩ : ∃ x, its.2[i]? = some x := ⟨_, List.getElem?_eq_getElem hlt⟩
    have hd : its.2.drop i = x :: its.2.drop (i + 1) := by
      rw [List.drop_eq_getElem_cons hlt]
      rw [List.getElem?_eq_getElem hlt] at hx
      cases hx; rfl
    rw [hd] at ec
    have hnb2 : comp its.1 step (x :: its.2.drop (i + 1)) acc S2 ≠ .bad := by rw [← ec]; exact hnb
    obtain ⟨hstill, hstep⟩ := comp_cons hnb2
    obtain ⟨hgo, _⟩ := iw hstill
    obtain ⟨go, hy⟩ := hgo i x hx
    refine .inr ⟨go, fun H' => ∃ al S acc accV, Ext al1 H1 al H' ∧ WI Γ.K Γ.T al S H' ∧ D ∉ al ∧ H' D = some (.lst accV) ∧ RVs Γ.K al H' acc accV ∧ comp its.1 step its.2 [] S1 = comp its.1 step (its.2.drop (i + 1)) acc S,
      fun H' nx => ⟨its.2.length - (i + 1), by omega, rfl, by omega, nx⟩, fun v H3 y => ?_⟩
    obtain ⟨x3, w3, rv⟩ := hy v H3 y
    have hk : Post Γ XF al2 H3 (step x S2) (fun o al' S' H' => (∃ y, o = some y ∧ acc.length < sizeLine ∧ comp its.1 step its.2 [] S1 = comp its.1 step (its.2.drop (i + 1)) (acc ++ [y]) S') ∨ (o = none ∧ comp its.1 step its.2 [] S1 = comp its.1 step (its.2.drop (i + 1)) acc S')) := by
      rcases hstep with ⟨y, S', e1, e2, e3⟩ | ⟨S', e1, e3⟩
      · rw [e1]; exact fun al' H' _ _ => .inl ⟨y, rfl, e2, ec.trans e3⟩
      · rw [e1]; exact fun al' H' _ _ => .inr ⟨rfl, ec.trans e3⟩
    subst hst
    have eD3 : H3 D = some (.lst accV) := x3.keep D _ eD hD2 fun ps z => by cases z
    refine step_read w3 (((r1.ext w1 x2).ext w2 x3).wipe own) rv hk _ fun ρ' σ' r' hl hj q => ⟨wipe_same hl hj hgs, al2, ρ', S2, w3, r', ?_⟩
    refine q.imp fun b al4 S4 H4 x4 w4 q4 => ?_
    have hD4 : D ∉ al4 := x4.notin eD3 hD2
    have eD4 : H4 D = some (.lst accV) := x4.keep D _ eD3 hD2 fun ps z => by cases z
    have xx : Ext al1 H1 al4 H4 := (x2.trans x3).trans x4
    cases b with
    | false =>
      rw [if_neg Bool.false_ne_true] at q4
      refine iteF ?_
      rcases q4 with ⟨y, z, _⟩ | ⟨_, e⟩
      · cases z
      · exact ⟨al4, S4, acc, accV, xx, w4, hD4, eD4, (ra.ext w2 x3).ext w3 x4, e⟩
    | true =>
      rw [if_pos rfl] at q4
      refine iteT ?_
      refine T_of w4 (r'.ext w3 x4) q4 fun y al5 S5 H5 v5 x5 w5 r5 rv5 q5 => ?_
      have hD5 : D ∉ al5 := x5.notin eD4 hD4
      have eD5 : H5 D = some (.lst accV) := x5.keep D _ eD4 hD4 fun ps z => by cases z
      have ra5 := ((ra.ext w2 x3).ext w3 x4).ext w4 x5
      rcases q5 with ⟨y', z, e2, e⟩ | ⟨z, _⟩
      · cases z
        obtain ⟨w6, hT⟩ := w5.aside (ys := accV ++ [v5]) hD5 eD5
        refine ⟨accV, eD5, by rw [← ra.length]; exact e2, al5, S5, acc ++ [y], accV ++ [v5], ?_, w6, hD5, upd_same, (ra5.mono hT (List.prefix_refl _)).append ((RVs.cons rv5 .nil).mono hT (List.prefix_refl _)), e⟩
        have xf := xx.trans x5
        exact ⟨xf.pre, xf.new, fun b o e1 e2 e3 => by
          rw [upd_ne (fun z => by rw [z, hD] at e1; cases e1)]
          exact xf.keep b o e1 e2 e3, fun b ps e1 e2 => by
          rw [upd_ne (fun z => by rw [z, hD] at e1; cases e1)]
          exact xf.tab b ps e1 e2⟩
      · cases z
  · have e : i = its.2.length := by omega
    subst e
    rw [List.drop_length] at ec
    have hnb2 : comp its.1 step [] acc S2 ≠ .bad := by rw [← ec]; exact hnb
    obtain ⟨hstill, e2⟩ := comp_nil hnb2
    refine .inl ⟨(iw hstill).2, ?_⟩
    rw [ec, e2] at q1
    refine q1 (al2 ++ [D]) H2 ⟨x2.pre.trans (List.prefix_append _ _), fun b hb => ?_, x2.keep, x2.tab⟩ (w2.add hD2 ⟨accV, eD, ra.mono (fun _ _ h => h) (List.prefix_append _ _)⟩) _ (.ref ?_)
    · rcases List.mem_append.mp hb with z | z
      · exact x2.new b z
      · rw [List.mem_singleton.mp z]; exact .inr hD
    · rw [List.getElem?_append_right (by rw [w2.len]; exact Nat.le_refl _), w2.len, Nat.sub_self]; rfl
theorem s_lc {own : List Nat} {g : Tg} {it ifs elt : E} {el iter : Expr} {tests : List Expr} {scope : Scope} (gx : G Γ Φ X W lv) (hi : PI X tg iter (TIt Γ Φ W it))
    (ok : BlkOk X.N X.env.scope scope (own.map fun i => (X.N.getD i "", i))) (hgs : ∀ j ∈ tgS g, j ∈ own)
    (hg : ∀ (s : Shared) (H : Hp) (C : Addr) (cl : List (Str × Addr)) (fp : List Addr), PG (X.blk s H scope (compEnvC scope cl C X.env) fp) tg (TGm Γ g))
    (ht : ∀ (s : Shared) (H : Hp) (C : Addr) (cl : List (Str × Addr)) (fp : List Addr), PTs (X.blk s H scope (compEnvC scope cl C X.env) fp) tests (TTAll Γ Φ WF ifs))
    (he : ∀ (s : Shared) (H : Hp) (C : Addr) (cl : List (Str × Addr)) (fp : List Addr), PE (X.blk s H scope (compEnvC scope cl C X.env) fp) el (T Γ Φ WF elt)) (hs : ∀ x, foldedSetIterable iter X.env x = pure x) :
    PE X (.ListComp el [⟨tg, iter, tests, 0⟩] scope pos) (T Γ Φ W (.lc own g it ifs elt)) :=
  (pe_lc gx.calm gx.nd hi ok hg ht he hs).imp fun σ H Q h => lc_read hgs h
end
end Mi
set_option autoImplicit true
set_option Elab.async false
set_option linter.all false
set_option maxRecDepth 100000
set_option maxHeartbeats 4000000
/-! MiG1: the frame of a generator expression. -/
namespace Mi
open PySem PySem.Spec PyProof.Rows L2 GenW

theorem over_comp {A : Around} {c : Code} {el : Expr} {gens : List Comprehension} {scope : Scope} {pos : Pos} {it acc : Value} {env : PySem.Env}
    (hc : c = .compLoop (.GeneratorExp el gens scope pos) 0 it acc env ∨ c = .compStart (.GeneratorExp el gens scope pos) 0 it acc env) : A.over c [] = A.deeper env := by
  rcases hc with rfl | rfl
  · first
      | rfl
      | (obtain ⟨hd, d, fr, gs, u⟩ := A; simp [Around.over, Around.deeper, marksOver, frameCount, unitsOf, envsOf, guardsOf, pushEnvs, pushGuards, Code.envs, Code.env?, Code.isFrame, Code.guards, Code.isGuard, Code.weight, Code.frames, Code.isCreation, Code.isCaller, Code.cUnits])
  · first
      | rfl
      | (obtain ⟨hd, d, fr, gs, u⟩ := A; simp [Around.over, Around.deeper, marksOver, frameCount, unitsOf, envsOf, guardsOf, pushEnvs, pushGuards, Code.envs, Code.env?, Code.isFrame, Code.guards, Code.isGuard, Code.weight, Code.frames, Code.isCreation, Code.isCaller, Code.cUnits])
/-- the context of a generator expression's frame: s, H at its making; pn: its own object -/
abbrev gX (X : Cx) (s : Shared) (H : Hp) (cenv : PySem.Env) (B : Around) (N' : List Str) (pn : List (Addr × Obj)) (ex : List Addr) : Cx :=
  { X with A := B.deeper cenv, N := N', s_0 := s, H_0 := H, env := cenv, outer := X.stack, stack := cenv :: X.stack, ex := ex, fn := fun _ => false, calm := true, pn := pn, xe := fun _ _ => False }
/-- the names of a generator expression: its own (ns), captured ones (places in N) -/
structure GenOk (N : List Str) (sc scope : Scope) (ns : List Str) (caps : List Nat) : Prop where
  kind : scope.kind = .function
  co : scope.isCoroutine = false
  cell : ∀ y ∈ scope.names, y.2 ≠ .cell
  dot : scope.names.lookup (".0" : Str) = some NameKind.local
  free : ∀ y ∈ scope.names, y.2 = .free → sc.names.lookup y.1 = some .cell ∨ sc.names.lookup y.1 = some .free
  cap : ∀ i ∈ caps, i < N.length ∧ scope.names.lookup (N.getD i "") = some .free
  nd : (ns ++ caps.map fun i => N.getD i "").Nodup
abbrev gN (N : List Str) (ns : List Str) (caps : List Nat) : List Str := ns ++ caps.map fun i => N.getD i ""
abbrev gσ (σ : L2.St) (no : Nat) (caps : List Nat) : L2.St := List.replicate no none ++ caps.map fun i => (σ[i]?).join
section
variable {X : Cx} {pins : List (Addr × Obj)} {σ : L2.St} {H : Hp} {s : Shared}
theorem gen_start {scope : Scope} {ns : List Str} {caps : List Nat} {fp : List Addr} {cl : List (Str × Addr)} {code : Value} {bi : Addr} {B : Around} {h' : Heap} {a : Addr} {oa : Obj} {G' : Array GenState} {tk : Nat} {it : Value}
    (I : Inv X pins σ H s) (ok : GenOk X.N X.env.scope scope ns caps) (hcl : cl = cloFrom X.env.cells scope.names []) (hfp : ∀ b ∈ fp, FpOk X pins H b ∧ b < s.heap.objs.size) (hB : B.handled = none) (hBf : B.frames = some X.stack) (hbi : bi = X.env.builtins)
    (hn : h'.Ns s.heap.objs.size (fun y => if y = ".0" then some it else none)) (hk : ∀ b o, s.heap.get? b = some o → h'.get? b = some o) (ha : a = h'.objs.size) (hsz : s.heap.objs.size < h'.objs.size) (hoa : ∀ v, oa.data ≠ .cell v) (hG : AllBare G') (ho : (h'.push oa).get? a = some oa) :
    Inv (gX X s H (genEnv scope cl s.heap.objs.size code bi X.env) B (gN X.N ns caps) [(a, oa)] fp) [] (gσ σ ns.length caps) H { s with heap := h'.push oa, gens := G', toks := tk } := by
  subst ha
  generalize hce : genEnv scope cl s.heap.objs.size code bi X.env = ce
  have hL : ce.locals = s.heap.objs.size := by rw [← hce]; rfl
  have hC : ce.cells = cl := by rw [← hce]; rfl
  have hS : ce.scope = scope := by rw [← hce]; rfl
  have kp : ∀ b o, s.heap.get? b = some o → (h'.push oa).get? b = some o := fun b o e => Heap.get?_push_of_some _ (hk b o e)
  have cm : ∀ {y c}, cl.lookup y = some c → X.env.cells.lookup y = some c ∧ c < s.heap.objs.size := fun {y c} e => by
    have hm := PySem.mem_of_lookup e
    rw [hcl] at hm
    rcases cloFrom_mem hm with hm | ⟨h1, rfl⟩
    · cases hm
    · obtain ⟨c, hc⟩ := (ok.free _ h1 rfl).elim (fun k => I.ok.has _ (.inl k)) fun k => I.ok.has _ (.inr k)
      rw [hc]
      obtain ⟨w, z⟩ := I.cell _ _ hc
      exact ⟨rfl, z.lt⟩
  have look : ∀ {y}, scope.names.lookup y = some .free → ∃ c, cl.lookup y = some c := fun {y} hl => by
    have hy : (y, NameKind.free) ∈ scope.names := PySem.mem_of_lookup hl
    have := cloFrom_has (cells := X.env.cells) (acc := []) hy
    rw [← hcl] at this
    exact mem_lookup this
  have okB : (gX X s H ce B (gN X.N ns caps) [(h'.objs.size, oa)] fp).Ok := by
    refine ⟨I.ok.mod, by show ce.scope.kind = _; rw [hS]; exact ok.kind, by show ce.globals = _; rw [← hce]; exact I.ok.glob, by show ce.builtins = _; rw [← hce]; show bi = _; rw [hbi]; exact I.ok.blt, by show s.heap.objs.size ≤ ce.locals; rw [hL]; exact Nat.le_refl _,
      fun y z c e1 e2 => ?_, fun y hy => ?_, fun y c z e => (nomatch z), fun _ => hB, Around.frames_deeper hBf, .inr ⟨rfl, ?_⟩, fun b hb => ⟨?_, fun y c e z => ?_⟩, I.bs, Nat.le_trans I.ok.bsz I.sz, fun b o e hb => ?_, fun b hb z => ?_, I.stack, I.stkFree⟩
    · have e1 : ce.cells.lookup y = some c := e1
      have e2 : ce.cells.lookup z = some c := e2
      rw [hC] at e1 e2
      exact I.ok.inj y z c (cm e1).1 (cm e2).1
    · show ∃ c, ce.cells.lookup y = some c
      rw [hC]
      have hy : scope.names.lookup y = some .cell ∨ scope.names.lookup y = some .free := by
        rcases hy with h | h
        · exact .inl (by have h : ce.scope.names.lookup y = _ := h; rw [hS] at h; exact h)
        · exact .inr (by have h : ce.scope.names.lookup y = _ := h; rw [hS] at h; exact h)
      rcases hy with h | h
      · exact absurd rfl (ok.cell _ (PySem.mem_of_lookup h))
      · exact look h
    · show ce.frame = some ce.locals
      rw [← hce]; rfl
    · show b ≠ ce.locals
      rw [hL]; exact Nat.ne_of_lt (hfp b hb).2
    · have e : ce.cells.lookup y = some c := e
      rw [hC] at e
      exact (hfp b hb).1.2.2.2.2.1 y c (cm e).1 z
    · rcases (hfp b hb).1.2.2.2.1 with z | z
      · exact I.ok.noex b o e z
      · exact absurd (Nat.lt_of_lt_of_le (Heap.lt_size e) (Nat.le_trans I.ok.bsz z)) (Nat.lt_irrefl _)
    · rcases List.mem_cons.mp (I.stkSub b z) with z | z
      · exact (hfp b hb).1.2.1 z
      · exact (hfp b hb).1.2.2.1 z
  have hnew : H h'.objs.size = none := I.hok.fresh (Nat.le_of_lt hsz)
  refine ⟨okB, rfl, hG, Un.kept kp, ⟨(fun y => if y = ".0" then some it else none), ?_, fun i y v e1 e2 e3 => ?_⟩, fun y c e => ?_, ?_, fun y c e => ?_, fun p hp => ?_, I.hok.kept kp, ?_⟩
  · show Heap.Ns _ ce.locals _
    rw [hL]
    exact hn.push _
  · -- a captured name
    have hi : ns.length ≤ i := by
      rcases Nat.lt_or_ge i ns.length with h | h
      · rw [List.getElem?_append_left (by simpa using h), List.getElem?_replicate, if_pos h] at e2; cases e2
      · exact h
    rw [List.getElem?_append_right hi] at e1
    rw [List.getElem?_append_right (by simpa using hi), List.length_replicate] at e2
    rw [List.getElem?_map] at e1 e2
    cases hj : caps[i - ns.length]? with
    | none => rw [hj] at e1; cases e1
    | some j =>
      rw [hj] at e1 e2
      have e1 : X.N.getD j "" = y := Option.some.inj e1
      have e2 : (σ[j]?).join = some v := Option.some.inj e2
      obtain ⟨hjl, hfr⟩ := ok.cap j (List.mem_of_getElem? hj)
      have eN : X.N[j]? = some y := by
        rw [List.getElem?_eq_getElem hjl, ← e1]
        simp [List.getD, hjl]
      have eσ : σ[j]? = some (some v) := by
        cases z : σ[j]? with
        | none => rw [z] at e2; cases e2
        | some o => rw [z] at e2; exact congrArg some e2
      rw [e1] at hfr
      have hsc := ok.free _ (PySem.mem_of_lookup hfr) rfl
      have hvis : Vis X.env.scope y := hsc.elim (fun k => .inr (.inl k)) fun k => .inr (.inr k)
      obtain ⟨m, hm, hl⟩ := I.loc
      obtain ⟨u, r, q⟩ := hl j y v eN eσ hvis
      refine ⟨u, r, .inr ⟨.inr (by show ce.scope.names.lookup y = _; rw [hS]; exact hfr), ?_⟩⟩
      obtain ⟨c, hc⟩ := look hfr
      rcases q with ⟨k, _⟩ | ⟨_, c', e', z⟩
      · have k : X.env.scope.names.lookup y = some .local := k
        rcases hsc with k' | k' <;> rw [show X.env.scope.names.lookup y = _ from k'] at k <;> cases k
      · have := (cm hc).1
        rw [e'] at this
        rw [Option.some.inj this] at z
        exact ⟨c, by show ce.cells.lookup y = _; rw [hC]; exact hc, z.keeps kp⟩
  · have e : ce.cells.lookup y = some c := e
    rw [hC] at e
    obtain ⟨w, z⟩ := I.cell y c (cm e).1
    exact ⟨w, z.keeps kp⟩
  · show H ce.locals = none
    rw [hL]; exact I.hok.fresh (Nat.le_refl _)
  · have e : ce.cells.lookup y = some c := e
    rw [hC] at e
    exact I.freeC y c (cm e).1
  · have e : p = (h'.objs.size, oa) := by simpa using (show p ∈ [(h'.objs.size, oa)] ++ [] from hp)
    subst e
    refine ⟨ho, hnew, ?_, fun hm => ?_, hoa⟩
    · show h'.objs.size ≠ ce.locals
      rw [hL]; exact Nat.ne_of_gt hsz
    · have hm : h'.objs.size ∈ frs X.stack := hm
      rcases List.mem_cons.mp (I.stkSub _ hm) with z | z
      · have := I.lt; rw [← z] at this; exact absurd (Nat.lt_trans hsz this) (Nat.lt_irrefl _)
      · exact I.nofs (Nat.le_of_lt hsz) z
  · simp
end
end Mi
set_option autoImplicit true
set_option Elab.async false
set_option linter.all false
set_option maxRecDepth 100000
set_option maxHeartbeats 4000000
/-! MiG2: the run of a generator expression. -/
namespace Mi
open PySem PySem.Spec PyProof.Rows L2 GenW
/-- what a generator expression is, from its making on -/
structure GD where
  Γ : Gam
  Φ : Orc
  X : Cx
  σ : L2.St
  its : Items
  al1 : List Addr
  H1 : Hp
  fp : List Addr
  tn : Nat → Heap → Prop
  J : It
  Ss : List Addr
  /-- before the items xs, acc is out; an item is out; the end -/
  Ws : List D → List D → Store → Prop
  C : List D → D → List D → Store → Prop
  Fi : List D → Store → Prop
  /-- what the consumer's objects hold -/
  Lk : List V → Heap → Prop
def Kept (Ss : List Addr) (s s' : Shared) : Prop := ∀ b ∈ Ss, ∀ o, s.heap.get? b = some o → s'.heap.get? b = some o
/-- while the generator sleeps -/
structure Slept' (Ss : List Addr) (s s' : Shared) : Prop where
  os : s'.os = s.os
  bare : AllBare s'.gens
  keep : ∀ b o, b ∉ Ss → s.heap.get? b = some o → s'.heap.get? b = some o
  own : ∀ b ∈ Ss, ∃ o, s'.heap.get? b = some o ∧ ∀ v, o.data ≠ .cell v
structure GS0 (P : GD) (al : List Addr) (S : Store) (H : Hp) (s : Shared) : Prop where
  ext : Ext P.al1 P.H1 al H
  wi : WI P.Γ.K P.Γ.T al S H
  inv : Inv P.X (pinsAt P.Ss s.heap) P.σ H s
  own : ∀ b ∈ P.Ss, ∃ o, s.heap.get? b = some o
structure GSt (P : GD) (al : List Addr) (S : Store) (H : Hp) (i : Nat) (s : Shared) : Prop extends GS0 P al S H s where
  tn : P.tn i s.heap
  fpn : ∀ b ∈ P.fp, H b = none
theorem pinsAt_eq {Ss : List Addr} {h h' : Heap} (e : ∀ b ∈ Ss, h'.get? b = h.get? b) : pinsAt Ss h' = pinsAt Ss h := by
  unfold pinsAt
  induction Ss with
  | nil => rfl
  | cons b r ih =>
    rw [List.filterMap_cons, List.filterMap_cons, e b List.mem_cons_self, ih fun c hc => e c (List.mem_cons_of_mem _ hc)]
/-- the consumer's objects stand apart -/
structure SsOk (P : GD) : Prop where
  new : ∀ b ∈ P.Ss, P.X.s_0.heap.objs.size ≤ b ∧ b ≠ P.X.env.locals ∧ (∀ x c, P.X.env.cells.lookup x = some c → c ≠ b) ∧ (∀ p ∈ P.X.pn, p.1 ≠ b) ∧ b ∉ P.fp
  exq : P.X.ex = P.fp
theorem GSt.woken {P : GD} {al : List Addr} {S : Store} {H : Hp} {i : Nat} {s s' : Shared} (ok : SsOk P) (kp : ∀ i h h', P.tn i h → (∀ b ∈ P.fp, ∀ o, h.get? b = some o → h'.get? b = some o) → P.tn i h') (h : GSt P al S H i s) (z : Slept' P.Ss s s') : GSt P al S H i s' := by
  obtain ⟨z1, z2, z3, z4⟩ := z
  have I := h.inv
  have nH : ∀ b ∈ P.Ss, H b = none := fun b hb => by
    obtain ⟨o, e⟩ := h.own b hb
    exact (I.pin (b, o) (List.mem_append_right _ (mem_pinsAt hb e))).2.1
  have nF : ∀ b ∈ P.Ss, b ∉ P.X.fs := fun b hb => by
    obtain ⟨o, e⟩ := h.own b hb
    exact (I.pin (b, o) (List.mem_append_right _ (mem_pinsAt hb e))).2.2.2.1
  have I0 : Inv P.X [] P.σ H s := I.pins_of fun p hp => by cases hp
  have nt : ∀ b u, H b = some u → b ∉ P.Ss := fun b u q hb => by rw [nH b hb] at q; cases q
  obtain ⟨hh, g, d, t, o⟩ := s'
  have ho : o = s.os := z1
  subst ho
  have J : Inv P.X [] P.σ H { s with heap := hh, gens := g, drawn := d, toks := t } := by
    refine I0.step (g' := g) (t' := t) (d' := d) (ch := P.Ss) (fun b hb => ?_)
      (fun b ob _ _ hc q _ => z3 b ob hc q) (fun b ob _ _ hc q _ => ⟨ob.slots, z3 b ob hc q⟩) (fun _ _ _ _ n => n) (fun b ob hc q => ⟨ob, z3 b ob hc q⟩)
      (fun _ _ q => q) (fun _ _ _ q => q) (fun b ps q => ⟨#[], by rw [q]; simp⟩) (fun m hm => ?_) (fun b u q => ?_) z2
    · obtain ⟨n1, n2, n3, n4, n5⟩ := ok.new b hb
      refine ⟨.inr n1, n2, n3, fun p hp => ?_⟩
      rcases List.mem_append.mp hp with hp | hp
      · exact n4 p hp
      · cases hp
    · obtain ⟨ob, es, ep, ho, r⟩ := hm
      exact ⟨ob, es, ep, z3 _ ob (fun hb => (ok.new _ hb).2.1 rfl) ho, r⟩
    · refine (I0.hok b u q).stay (fun c v hc y => z3 c v ?_ y) (fun _ y => y) fun _ _ y => y
      rcases hc with y | y
      · rw [y]; exact nt b u q
      · exact nt c _ y
  refine ⟨⟨h.ext, h.wi, J.pins_of fun p hp => ?_, fun b hb => let ⟨o, e, _⟩ := z4 b hb; ⟨o, e⟩⟩, kp i _ _ h.tn fun b hb ob e => z3 b ob (fun hm => (ok.new b hm).2.2.2.2 hb) e, h.fpn⟩
  obtain ⟨hb, e⟩ := of_pinsAt hp
  obtain ⟨ob, e', hc⟩ := z4 _ hb
  have e : hh.get? p.1 = some p.2 := e
  have e' : hh.get? p.1 = some ob := e'
  rw [e] at e'; cases e'
  exact ⟨e, nH _ hb, (ok.new _ hb).2.1, nF _ hb, hc⟩
def YG (P : GD) : Protocol := fun n s₀ v s₁ kap => Kept P.Ss s₀ s₁ ∧ ∃ acc vs y i al S H x, (P.its.2.drop i).length ≤ n ∧ GSt P al S H i s₁ ∧ RelV x v ∧ RV P.Γ.K al H y x ∧ (RVs P.Γ.K al H acc vs ∧ P.Lk vs s₁.heap) ∧ P.C acc y (P.its.2.drop i) S ∧
  ∀ s' acc' vs', Slept' P.Ss s₁ s' → (RVs P.Γ.K al H acc' vs' ∧ P.Lk vs' s'.heap) → P.Ws acc' (P.its.2.drop i) S → kap (.send .none) s'
def FG (P : GD) : Nat → Shared → Shared → Prop := fun _ s₀ s₁ => Kept P.Ss s₀ s₁ ∧ ∃ acc vs al S H, GS0 P al S H s₁ ∧ (RVs P.Γ.K al H acc vs ∧ P.Lk vs s₁.heap) ∧ P.Fi acc S
def RGd (P : GD) : GenEnd := fun n s₀ r s₁ => ((r = .ok (.ret .none) ∨ r = .ok .next) ∧ FG P n s₀ s₁) ∨ ∃ e, r = .error e ∧ (fun (_ : Value) (_ : Shared) => False) e s₁
/-- the wish ahead of an item, at the end -/
structure WishOk (P : GD) (step : D → M (Option D)) : Prop where
  nil : ∀ acc S, P.Ws acc [] S → still P.its.1 S ∧ P.Fi acc S
  cons : ∀ acc x xs S, P.Ws acc (x :: xs) S → still P.its.1 S ∧ ((∃ y S', step x S = .ok (some y) S' ∧ P.C acc y xs S') ∨ ∃ S', step x S = .ok none S' ∧ P.Ws acc xs S')
theorem seg_loop {P : GD} {A : Around} {cenv : PySem.Env} {el tg iter : Expr} {tests : List Expr} {scope : Scope} {pos : Pos} {it : Addr} {ρ : Env} {g : Tg} {ifs elt : E} {c : Code}
    (hA : A.deeper cenv = P.X.A) (hE : P.X.env = cenv) (hxe : P.X.xe = fun _ _ => False) (hcalm : P.X.calm = true) (hco : cenv.scope.isCoroutine = false) (ok : SsOk P) (hKK : P.X.K = P.Γ.K)
    (T' : Turn P.X.prog P.X.w P.X.K tg P.J P.fp it P.tn) (hfp : ∀ b ∈ P.fp, b ≠ P.X.env.locals ∧ b ∉ P.X.fs ∧ (b ∈ P.X.ex ∨ P.X.s_0.heap.objs.size ≤ b) ∧ (∀ x c, P.X.env.cells.lookup x = some c → c ≠ b) ∧ ∀ p ∈ P.X.pn, p.1 ≠ b)
    (hJ : Iw P.Γ P.al1 P.H1 P.J P.its) (r1 : RE P.Γ.K P.al1 P.H1 ρ P.σ) (w1 : ∃ S1, WI P.Γ.K P.Γ.T P.al1 S1 P.H1) (hg : PG P.X tg (TGm P.Γ g)) (ht : PTs P.X tests (TTAll P.Γ P.Φ WF ifs)) (he : PE P.X el (T P.Γ P.Φ WF elt))
    (hσ : ∀ j ∈ tgS g, P.σ[j]? = some none) (wo : WishOk P (stepOf P.Φ ρ g ifs elt)) (hc : c = .compLoop (.GeneratorExp el [⟨tg, iter, tests, 0⟩] scope pos) 0 (.ref it) .none cenv)
    (hLk : ∀ vs h h', (∀ b ∈ P.Ss, h'.get? b = h.get? b) → P.Lk vs h → P.Lk vs h') :
    ∀ (k i n : Nat) (s₀ s : Shared) (al : List Addr) (S : Store) (H : Hp) (acc : List D) (vs : List V), P.its.2.length - i = k → i ≤ P.its.2.length → k ≤ n → Kept P.Ss s₀ s → GSt P al S H i s → (RVs P.Γ.K al H acc vs ∧ P.Lk vs s.heap) → P.Ws acc (P.its.2.drop i) S →
      Seg (model P.X.prog P.X.w) A (RGd P) (YG P) n s₀ c ((model P.X.prog P.X.w).den c) [] s := by
  have hov : A.over c [] = P.X.A := by rw [hc, over_comp (.inl rfl), hA]
  have stat : ∀ {i : Nat} {al : List Addr} {S : Store} {H : Hp} {s : Shared}, GSt P al S H i s → ∀ b ∈ P.fp, FpOk P.X (pinsAt P.Ss s.heap) H b := fun {i al S H s} h b hb =>
    ⟨h.fpn b hb, (hfp b hb).1, (hfp b hb).2.1, (hfp b hb).2.2.1, (hfp b hb).2.2.2.1, fun p hp => by
      rcases List.mem_append.mp hp with hp | hp
      · exact (hfp b hb).2.2.2.2 p hp
      · obtain ⟨h1, _⟩ := of_pinsAt hp
        exact fun z => (ok.new _ h1).2.2.2.2 (by rw [z]; exact hb)⟩
  have den : (model P.X.prog P.X.w).den c = (compTurn (.GeneratorExp el [⟨tg, iter, tests, 0⟩] scope pos) 0 (.ref it) .none cenv).onRaise (leaving cenv) := by rw [hc]; rfl
  have pinS : ∀ {b : Addr} {o : Obj} {h : Heap} {pins : List (Addr × Obj)} {σ : L2.St} {H : Hp} {s : Shared}, b ∈ P.Ss → h.get? b = some o → Inv P.X (pinsAt P.Ss h ++ pins) σ H s → s.heap.get? b = some o := fun {b o h pins σ H s} hb e I =>
    (I.pin (b, o) (List.mem_append_right _ (List.mem_append_left _ (mem_pinsAt hb e)))).1
  intro k
  induction k with
  | zero =>
    intro i n s₀ s al S H acc vs hk hi hn hkp h hv hw
    have hin : i = P.its.2.length := by omega
    subst hin
    rw [List.drop_length] at hw
    obtain ⟨hst, hf⟩ := wo.nil acc S hw
    rw [den, compTurn_gen, Sem.onRaise_eq_wrap]
    refine seg_bind_wrap (wpAny_standAt ?_)
    refine seg_bind_wrap ?_
    rw [hov]
    refine thnF (T'.done P.X rfl rfl rfl hcalm _ _ s _ H (fun _ _ => False) h.inv (stat h) h.tn (hJ al S H h.ext h.wi hst).2) fun r s1 ⟨hr, I1⟩ => ?_
    subst hr
    have kS : ∀ b ∈ P.Ss, ∀ o, s.heap.get? b = some o → s1.heap.get? b = some o := fun b hb o e => (I1.pin (b, o) (List.mem_append_right _ (mem_pinsAt hb e))).1
    have epins : pinsAt P.Ss s1.heap = pinsAt P.Ss s.heap := pinsAt_eq fun b hb => by
      obtain ⟨o, e⟩ := h.own b hb
      rw [e, kS b hb o e]
    exact seg_end (.ok .next) (.inl ⟨.inr rfl, fun b hb o e => kS b hb o (hkp b hb o e), acc, vs, al, S, H, ⟨h.ext, h.wi, by rw [epins]; exact I1, fun b hb => let ⟨o, e⟩ := h.own b hb; ⟨o, kS b hb o e⟩⟩, ⟨hv.1, hLk vs s.heap s1.heap (fun b hb => by
      obtain ⟨o, e⟩ := h.own b hb
      rw [e]; exact kS b hb o e) hv.2⟩, hf⟩)
  | succ k ih =>
    intro i n s₀ s al S H acc vs hk hi hn hkp h hv hw
    have hlt : i < P.its.2.length := by omega
    obtain ⟨x, hx⟩ : ∃ x, P.its.2[i]? = some x := ⟨_, List.getElem?_eq_getElem hlt⟩
    have hd : P.its.2.drop i = x :: P.its.2.drop (i + 1) := by
      rw [List.drop_eq_getElem_cons hlt]
      rw [List.getElem?_eq_getElem hlt] at hx
      cases hx; rfl
    rw [hd] at hw
    obtain ⟨hst, hstep⟩ := wo.cons acc x _ S hw
    obtain ⟨hgo, _⟩ := hJ al S H h.ext h.wi hst
    obtain ⟨go, hy⟩ := hgo i x hx
    rw [den, compTurn_gen, Sem.onRaise_eq_wrap]
    refine seg_bind_wrap (wpAny_standAt ?_)
    refine seg_bind_wrap ?_
    rw [hov]
    refine thnF (T'.item P.X rfl rfl rfl hcalm i _ s _ H (fun _ _ => False) h.inv (stat h) h.tn go) fun r s6 ⟨u, hr, h6⟩ => ?_
    subst hr
    refine seg_bind_wrap ?_
    rw [hov]
    refine thnF h6 fun _ s7 ⟨xv, H7, I7, r7, y7, st7, n7⟩ => ?_
    obtain ⟨x3, w3, rv⟩ := hy xv H7 y7
    have k7 : ∀ b ∈ P.Ss, ∀ o, s.heap.get? b = some o → s7.heap.get? b = some o := fun b hb o e => (I7.pin (b, o) (List.mem_append_right _ (mem_pinsAt hb e))).1
    have f7 : ∀ b ∈ P.fp, FpOk P.X (pinsAt P.Ss s.heap) H7 b := fun b hb => ⟨n7 b hb, (stat h b hb).2⟩
    have I7' := I7.pinned f7 (T'.obj _ _ st7)
    have hk' : Post P.Γ XF al H7 (stepOf P.Φ ρ g ifs elt x S) (fun o al' S' H' => (∃ y, o = some y ∧ P.C acc y (P.its.2.drop (i + 1)) S') ∨ (o = none ∧ P.Ws acc (P.its.2.drop (i + 1)) S')) := by
      rcases hstep with ⟨y, S', e1, e3⟩ | ⟨S', e1, e3⟩
      · rw [e1]; exact fun al' H' _ _ => .inl ⟨y, rfl, e3⟩
      · rw [e1]; exact fun al' H' _ _ => .inr ⟨rfl, e3⟩
    obtain ⟨S1, w1⟩ := w1
    have rr := ((r1.ext w1 h.ext).ext h.wi x3)
    refine seg_bind_wrap ?_
    rw [hov]
    have pg := hg.run _ s7 P.σ H7 xv u (fun σ' H' => H' = H7 ∧ (σ'.length = P.σ.length ∧ ∀ j, j ∉ tgS g → σ'[j]? = P.σ[j]?) ∧ ∃ ρ', RE P.Γ.K al H7 ρ' σ' ∧ Post P.Γ XF al H7 (evAll P.Φ ifs ρ' S) (fun b al' S' H' => if b = true then Post P.Γ XF al' H' (ev P.Φ elt ρ' S') (fun y al'' S'' H'' => (∃ y', some y = some y' ∧ P.C acc y' (P.its.2.drop (i + 1)) S'') ∨ (some y = none ∧ P.Ws acc (P.its.2.drop (i + 1)) S'')) else ((∃ y', (none : Option D) = some y' ∧ P.C acc y' (P.its.2.drop (i + 1)) S') ∨ ((none : Option D) = none ∧ P.Ws acc (P.its.2.drop (i + 1)) S')))) I7' r7
      (step_read w3 rr rv hk' _ fun ρ' σ' r' hl hj q => ⟨rfl, ⟨hl, hj⟩, ρ', r', q⟩)
    rw [hE, hxe] at pg
    refine thnF pg fun _ s8 ⟨σ8, H8, I8, e8, ⟨l8, j8⟩, ρ', r8, q8⟩ => ?_
    subst e8
    refine seg_bind_wrap ?_
    rw [hov]
    have pt := ht.run _ s8 σ8 H8 _ I8 ⟨al, ρ', S, w3, r8, q8.imp fun b al' S' H' x' w' z => (⟨al', S', x', w', z⟩ : ∃ al' S', Ext al H8 al' H' ∧ WI P.Γ.K P.Γ.T al' S' H' ∧ (if b = true then Post P.Γ XF al' H' (ev P.Φ elt ρ' S') (fun y al'' S'' H'' => (∃ y', some y = some y' ∧ P.C acc y' (P.its.2.drop (i + 1)) S'') ∨ (some y = none ∧ P.Ws acc (P.its.2.drop (i + 1)) S'')) else ((∃ y', (none : Option D) = some y' ∧ P.C acc y' (P.its.2.drop (i + 1)) S') ∨ ((none : Option D) = none ∧ P.Ws acc (P.its.2.drop (i + 1)) S'))))⟩
    rw [hE, hxe] at pt
    refine thnF pt fun b s9 ⟨H9, I9, al9, S9, x9, w9, q9⟩ => ?_
    -- the turn's end, whatever stands behind it
    have fin : ∀ {s' : Shared} {al' : List Addr} {S' : Store} {H' : Hp}, Inv P.X (pinsAt P.Ss s.heap ++ pinsAt P.fp s7.heap) σ8 H' s' → Ext al H8 al' H' → WI P.Γ.K P.Γ.T al' S' H' → GSt P al' S' H' (i + 1) s' ∧ Kept P.Ss s s' := fun {s' al' S' H'} I' x' w' => by
      have kS : ∀ b ∈ P.Ss, ∀ o, s.heap.get? b = some o → s'.heap.get? b = some o := fun b hb o e => pinS hb e I'
      have epins : pinsAt P.Ss s'.heap = pinsAt P.Ss s.heap := pinsAt_eq fun b hb => by
        obtain ⟨o, e⟩ := h.own b hb
        rw [e, kS b hb o e]
      have pin' : ∀ b ∈ P.fp, ∀ o, s7.heap.get? b = some o → s'.heap.get? b = some o ∧ H' b = none := fun b hb o e =>
        let z := I'.pin (b, o) (List.mem_append_right _ (List.mem_append_right _ (mem_pinsAt hb e)))
        ⟨z.1, z.2.1⟩
      refine ⟨⟨⟨(h.ext.trans x3).trans x', w', ?_, fun b hb => let ⟨o, e⟩ := h.own b hb; ⟨o, kS b hb o e⟩⟩, T'.keep _ _ _ st7 fun b hb o e => (pin' b hb o e).1, fun b hb => ?_⟩, kS⟩
      · rw [epins]
        have I2 : Inv P.X (pinsAt P.Ss s.heap) σ8 H' s' := I'.pins_of fun p hp => I'.pin p (List.mem_append_right _ (List.mem_append_left _ hp))
        refine I2.weak l8.symm fun j v e => ?_
        by_cases hj : j ∈ tgS g
        · rw [hσ j hj] at e; cases e
        · rw [j8 j hj]; exact e
      · obtain ⟨o, e, _⟩ := T'.obj _ _ st7 b hb
        exact (pin' b hb o e).2
    cases b with
    | false =>
      rw [if_neg Bool.false_ne_true] at q9
      rcases q9 with ⟨y, z, _⟩ | ⟨_, q9⟩
      · cases z
      obtain ⟨g9, k9⟩ := fin I9 x9 w9
      simp only [Bool.false_eq_true, if_false]
      refine seg_again rfl ?_
      rw [← hc]
      exact ih (i + 1) n s₀ s9 al9 S9 H9 acc vs (by omega) hlt (by omega) (fun b hb o e => k9 b hb o (hkp b hb o e)) g9 ⟨(hv.1.ext h.wi x3).ext w3 x9, hLk vs s.heap s9.heap (fun b hb => by
        obtain ⟨o, e⟩ := h.own b hb
        rw [e]; exact k9 b hb o e) hv.2⟩ q9
    | true =>
      rw [if_pos rfl] at q9
      simp only [if_true]
      obtain ⟨n, rfl⟩ : ∃ m, n = m + 1 := ⟨n - 1, by omega⟩
      have hy' : ∀ v, yieldOut cenv v = yieldValue v := fun v => by simp only [yieldOut, hco, Bool.false_eq_true, if_false]
      simp only [hy']
      rw [Sem.bind_eq_wrap', Sem.bind_eq_wrap', Sem.wrap_wrap, Sem.wrap_wrap]
      refine seg_wrap ?_
      rw [hov]
      have pe := he.run _ s9 σ8 H9 (fun v H' => ∃ al' S' y, Ext al9 H9 al' H' ∧ WI P.Γ.K P.Γ.T al' S' H' ∧ RV P.Γ.K al' H' y v ∧ P.C acc y (P.its.2.drop (i + 1)) S') I9
        ⟨al9, ρ', S9, w9, r8.ext w3 x9, q9.imp fun y al' S' H' x' w' z v rvy => ⟨al', S', y, x', w', rvy, by
          rcases z with ⟨y', e, z⟩ | ⟨e, _⟩
          · cases e; exact z
          · cases e⟩⟩
      rw [hE, hxe] at pe
      refine thnF pe fun yv s10 ⟨xv10, H10, I10, r10, al10, S10, y, x10, w10, rvy, hC⟩ => ?_
      obtain ⟨g10, k10⟩ := fin I10 (x9.trans x10) w10
      refine seg_at (seg_yield rfl rfl rfl ⟨fun b hb o e => k10 b hb o (hkp b hb o e), acc, vs, y, i + 1, al10, S10, H10, xv10, by rw [List.length_drop]; omega, g10, r10, rvy, ⟨((hv.1.ext h.wi x3).ext w3 x9).ext w9 x10, hLk vs s.heap s10.heap (fun b hb => by
        obtain ⟨o, e⟩ := h.own b hb
        rw [e]; exact k10 b hb o e) hv.2⟩, hC, fun s'' acc' vs' z hv' hw' => ?_⟩)
      refine seg_again rfl ?_
      rw [← hc]
      exact ih (i + 1) n s'' s'' al10 S10 H10 acc' vs' (by omega) hlt (by omega) (fun _ _ _ e => e) (g10.woken ok T'.keep z) hv' hw'
end Mi
set_option autoImplicit true
set_option Elab.async false
set_option linter.all false
set_option maxRecDepth 100000
set_option maxHeartbeats 4000000
/-! MiG3: a generator expression is made. -/
namespace Mi
open PySem PySem.Spec PyProof.Rows L2 GenW
section
variable {K : PySem.W.Frag} {Ta al al' : List Addr} {S : Store} {H H' : Hp}
/-- a table of code objects grows -/
theorem WI.tbl (w : WI K Ta al S H) {P : Addr} {ps qs : Array Value} (e : H P = some (.tbl ps)) (t : TriplesOk qs.toList) : WI K Ta al S (upd H P (.tbl qs)) ∧ Ext al H al (upd H P (.tbl qs)) ∧ ∀ a zs, SqT K H a zs → SqT K (upd H P (.tbl qs)) a zs := by
  have hP := w.notbl e
  have hT : ∀ a zs, SqT K H a zs → SqT K (upd H P (.tbl qs)) a zs := fun a zs z => by
    rcases z with (z | ⟨u, z⟩) | z
    · exact .inl (.inl (by rw [upd_ne (ne_of z e (by intro q; cases q))]; exact z))
    · exact .inl (.inr ⟨u, by rw [upd_ne (ne_of z e (by intro q; cases q))]; exact z⟩)
    · exact .inr z
  refine ⟨⟨w.len, w.nd, fun n o a h1 h2 => (w.ob n o a h1 h2).mono (upd_ne fun z => hP (by rw [← z]; exact List.mem_of_getElem? h2)) hT (List.prefix_refl _), fun p hp => ?_⟩, ⟨List.prefix_refl _, fun b hb => .inl hb, fun b o e1 _ n => ?_, fun b ps' e1 _ => ?_⟩, hT⟩
  · by_cases hpP : p = P
    · subst hpP; exact ⟨qs, upd_same, t⟩
    · obtain ⟨ps', e2, t2⟩ := w.tab p hp
      exact ⟨ps', by rw [upd_ne hpP]; exact e2, t2⟩
  · rw [upd_ne (fun z => by rw [z, e] at e1; exact n ps (Option.some.inj e1).symm)]; exact e1
  · by_cases hb : b = P
    · subst hb; exact ⟨qs, upd_same⟩
    · exact ⟨ps', by rw [upd_ne hb]; exact e1⟩
end
theorem seg_start {P : GD} {A : Around} {cenv : PySem.Env} {el tg iter : Expr} {tests : List Expr} {scope : Scope} {pos : Pos} {it : Addr} {n : Nat} {s : Shared}
    (hov : A.over (.compStart (.GeneratorExp el [⟨tg, iter, tests, 0⟩] scope pos) 0 (.ref it) .none cenv) [] = P.X.A) (T' : Turn P.X.prog P.X.w P.X.K tg P.J P.fp it P.tn) (htn : P.tn 0 s.heap)
    (loop : Seg (model P.X.prog P.X.w) A (RGd P) (YG P) n s (.compLoop (.GeneratorExp el [⟨tg, iter, tests, 0⟩] scope pos) 0 (.ref it) .none cenv) ((model P.X.prog P.X.w).den (.compLoop (.GeneratorExp el [⟨tg, iter, tests, 0⟩] scope pos) 0 (.ref it) .none cenv)) [] s) :
    Seg (model P.X.prog P.X.w) A (RGd P) (YG P) n s (.compStart (.GeneratorExp el [⟨tg, iter, tests, 0⟩] scope pos) 0 (.ref it) .none cenv)
      ((model P.X.prog P.X.w).den (.compStart (.GeneratorExp el [⟨tg, iter, tests, 0⟩] scope pos) 0 (.ref it) .none cenv)) [] s := by
  show Seg _ A _ _ _ s _ ((compStart (.GeneratorExp el [⟨tg, iter, tests, 0⟩] scope pos) 0 (.ref it) .none cenv).onRaise (leaving cenv)) [] s
  unfold compStart
  rw [Sem.onRaise_eq_wrap]
  show Seg _ A _ _ _ s _ ((ask >>= _).wrap _ _ _ _) [] s
  refine seg_bind_wrap (wpAny_askSetting ?_)
  split
  · exact seg_again rfl loop
  · refine seg_bind_wrap (wpAny_rule ?_)
    show Seg _ A _ _ _ s _ ((standAt iter.pos >>= _).wrap _ _ _ _) [] s
    exact seg_bind_wrap (wpAny_standAt (seg_bind_wrap (T'.self _ 0 s _ _ htn (seg_again rfl loop))))
/-- a generator that was made in X, at a, number g of the table, from the state s4 on -/
structure Made (Γ : Gam) (X : Cx) (pins : List (Addr × Obj)) (σ : L2.St) (el tg iter : Expr) (tests : List Expr) (scope : Scope) (gpos : Pos) (ns : List Str) (caps : List Nat) (al1 : List Addr) (S1 : Store) (H1 : Hp) (J : It) (a : Addr) (s5 : Shared) : Prop where
  run : ∃ (s4 : Shared) (cl : List (Str × Addr)) (code : Value) (bi : Addr) (it : Addr) (fp : List Addr) (tn : Nat → Heap → Prop) (oa : Obj),
    Inv X pins σ H1 s4 ∧ Turn X.prog X.w X.K tg J fp it tn ∧ tn 0 s5.heap ∧ (∀ b ∈ fp, FpOk X pins H1 b ∧ b < s4.heap.objs.size) ∧ s5.os = s4.os ∧ AllBare s5.gens ∧ (∀ b o, s4.heap.get? b = some o → s5.heap.get? b = some o) ∧
    s4.heap.objs.size < a ∧ a < s5.heap.objs.size ∧ s5.heap.IsGen a s4.gens.size ∧ s5.heap.NoLimit ∧
    s5.gens[s4.gens.size]? = some (.fresh (.compStart (.GeneratorExp el [⟨tg, iter, tests, 0⟩] scope gpos) 0 (.ref it) .none (genEnv scope cl s4.heap.objs.size code bi X.env))) ∧
    ∀ B : Around, B.handled = none → B.frames = some X.stack → Inv (gX X s4 H1 (genEnv scope cl s4.heap.objs.size code bi X.env) B (gN X.N ns caps) [(a, oa)] fp) [] (gσ σ ns.length caps) H1 s5
theorem gen_make {Γ : Gam} {X : Cx} {pins : List (Addr × Obj)} {σ : L2.St} {H : Hp} {s : Shared} {el tg iter : Expr} {tests : List Expr} {scope : Scope} {gpos : Pos} {ns : List Str} {caps : List Nat} {c P : Addr} {wi : TI} {k : Nat}
    {Q' : Value → Shared → Prop} {R : List Addr → Store → Hp → It → Prop}
    (hr : Room k X.A) (TB : GxR.TabB X.base X.mg c P) (hcode : X.env.code = .ref c) (ok : GenOk X.N X.env.scope scope ns caps) (hi : PI X tg iter wi) (hs : ∀ v, genFold iter X.env v = pure v) (I : Inv X pins σ H s)
    (hP : ∀ al S H', WI Γ.K Γ.T al S H' → ∃ ps, H' P = some (.tbl ps) ∧ TriplesOk ps.toList)
    (h : wi σ H fun J H1 => ∃ al S, WI Γ.K Γ.T al S H1 ∧ R al S H1 J) (hR : ∀ al S H1 J ps qs, R al S H1 J → H1 P = some (.tbl ps) → TriplesOk qs → ∀ more, qs = (ps ++ more).toList → R al S (upd H1 P (.tbl (ps ++ more))) J)
    (hQ : ∀ al S H1 J a s5, WI Γ.K Γ.T al S H1 → R al S H1 J → Made Γ X pins σ el tg iter tests scope gpos ns caps al S H1 J a s5 → Q' (.ref a) s5) :
    wpAny (model X.prog X.w) X.A (eval (.GeneratorExp el [⟨tg, iter, tests, 0⟩] scope gpos) X.env) Q' X.xe s := by
  have hfree : ∀ y ∈ scope.names, y.2 = .free → ∃ c, X.env.cells.lookup y.1 = some c := fun y hy e => by
    rcases ok.free y hy e with k | k
    · exact I.ok.has _ (.inl k)
    · exact I.ok.has _ (.inr k)
  refine wpAny_GeneratorExp_make ok.co (closure_ok hfree) ok.cell ok.dot ok.kind (by have := hr.dp; omega) ?_ hs
  refine thn (hi.run pins s σ H _ I h) fun xv s1 hx => thn hx fun itv s2 h2 => ?_
  obtain ⟨it, fp, tn, J, H2, rfl, I2, T', st2, f2, al, S, w2, hRR⟩ := h2
  obtain ⟨ps, hPs, ht⟩ := hP al S H2 w2
  have hPh : s2.heap.get? P = some { cls := .none, data := .fields ps } := I2.hok P _ hPs
  have hPlt : P < s2.heap.objs.size := Heap.lt_size hPh
  have cd : PySem.W.CodeHd s2.heap c P := TB.code.keeps fun b u e => I2.bk b u e
  have lim2 : s2.heap.NoLimit := I2.nolimit
  have nPfp : ∀ b ∈ fp, b ≠ P := fun b hb z => by
    have := (f2 b hb).1
    rw [z, hPs] at this; cases this
  have cont : ∀ (code : Value) (h3 : Heap) (tk : Nat) (ps' : Array Value), Heap.ExtBut P s2.heap h3 → s2.heap.objs.size ≤ h3.objs.size → h3.get? P = some { cls := .none, data := .fields ps' } → (∃ more, ps' = ps ++ more) → TriplesOk ps'.toList →
      wpAny (model X.prog X.w) X.A (builtinsFor X.env.globals X.env.builtins) (fun bi s₄ =>
        ∀ h', h'.Ns s₄.heap.objs.size (fun y => if y = ".0" then some (.ref it) else none) → Heap.SameBut s₄.heap.objs.size (s₄.heap.push { cls := .type "frame", data := .dict #[] }) h' →
          Q' (.ref h'.objs.size) { s₄ with
            gens := s₄.gens.push (.fresh (.compStart (.GeneratorExp el [⟨tg, iter, tests, 0⟩] scope gpos) 0 (.ref it) .none (genEnv scope (cloFrom X.env.cells scope.names []) s₄.heap.objs.size code bi X.env))),
            toks := s₄.toks + 1 + 1 + 1,
            heap := h'.push { cls := .type "generator", data := .fields #[.int s₄.gens.size 0, .str "<genexpr>" (s₄.toks + 1), .str (X.env.qual ++ "<genexpr>") (s₄.toks + 1 + 1)] } }) X.xe { s2 with heap := h3, toks := tk } := by
    intro code h3 tk ps' hx hsz hP3 hmore ht3
    obtain ⟨more, em⟩ := hmore
    obtain ⟨bm, ob, e1, e2, e3, e4, e5, e6, e7, e8⟩ := TB.bm
    have keep3 : ∀ b u, b ≠ P → s2.heap.get? b = some u → h3.get? b = some u := fun b u hb e => hx b u hb e
    have hcP : cStatics ≠ P := fun e => by
      obtain ⟨_, hns, _⟩ := I2.nolimit
      obtain ⟨o', es, ep, ho, hd, _⟩ := hns
      rw [e, hPh] at ho
      cases ho
      cases hd
    refine wpAny_builtinsFor (m := X.mg) (by rw [I2.ok.glob]; exact (I2.mod.glob.keeps I2.bk).extBut hx TB.gP) e1 e2 (keep3 _ _ e4 (I2.bk _ _ e5)) e6 e7 e8 ?_
    intro h' hn' hs'
    subst em
    -- the table has grown
    have I3 : Inv X pins σ (upd H2 P (.tbl (ps ++ more))) { s2 with heap := h3, toks := tk } := GxR.inv_tab (g' := s2.gens) (d' := s2.drawn) I2 hPs (fun b u hb e => keep3 b u hb e) hP3 I2.bare
    have w3 := (w2.tbl hPs ht3).1
    have hgsz : h'.objs.size = h3.objs.size + 1 := by rw [hs'.1]; exact Heap.size_push ..
    have keep' : ∀ b o, h3.get? b = some o → h'.get? b = some o := fun b o e => hs'.extBut b o (Nat.ne_of_lt (Heap.lt_size e)) (Heap.get?_push_of_some _ e)
    have kp5 : ∀ b o, h3.get? b = some o → (h'.push { cls := .type "generator", data := .fields #[.int s2.gens.size 0, .str "<genexpr>" (tk + 1), .str (X.env.qual ++ "<genexpr>") (tk + 1 + 1)] }).get? b = some o := fun b o e => Heap.get?_push_of_some _ (keep' b o e)
    have f3 : ∀ b ∈ fp, FpOk X pins (upd H2 P (.tbl (ps ++ more))) b ∧ b < h3.objs.size := fun b hb => by
      obtain ⟨o, e, _⟩ := T'.obj _ _ st2 b hb
      exact ⟨⟨by rw [upd_ne (nPfp b hb)]; exact (f2 b hb).1, (f2 b hb).2⟩, Heap.lt_size (keep3 b o (nPfp b hb) e)⟩
    refine hQ al S _ J h'.objs.size _ w3 (hR _ _ _ _ _ _ hRR hPs ht3 more rfl) ⟨{ s2 with heap := h3, toks := tk }, cloFrom X.env.cells scope.names [], code, builtinsNs, it, fp, tn, { cls := .type "generator", data := .fields #[.int s2.gens.size 0, .str "<genexpr>" (tk + 1), .str (X.env.qual ++ "<genexpr>") (tk + 1 + 1)] }, I3, T',
      T'.keep _ _ _ st2 fun b hb o e => kp5 b o (keep3 b o (nPfp b hb) e), f3, rfl, I2.bare.push rfl, kp5, ?_, ?_, ⟨_, _, _, Heap.get?_push_size _ rfl, rfl, rfl, rfl⟩, ?_, ?_, ?_⟩
    · show h3.objs.size < h'.objs.size
      omega
    · show h'.objs.size < (h'.push _).objs.size
      rw [Heap.size_push]; exact Nat.lt_succ_self _
    · exact (lim2.extBut hx hcP).keeps kp5
    · exact Array.getElem?_push_size ..
    · intro B hB hBf
      exact gen_start (s := { s2 with heap := h3, toks := tk }) I3 ok rfl f3 hB hBf I3.ok.blt.symm hn' keep' rfl (by show h3.objs.size < h'.objs.size; omega) (fun v z => by cases z) (I2.bare.push rfl) (Heap.get?_push_size _ rfl)
  refine ⟨lim2, ?_⟩
  cases hf : codeAmong gpos ps.toList with
  | none =>
    refine wpAny_genexprCodeX hcode (cd.code hPh ht) (cd.tab hPh) hf fun c' h' tk hx hge hlt hco' _ htab' _ => ?_
    obtain ⟨o1, vs, f1, tf, fl, tg, inF, tx, tt, op, _, _, _, _, _, _, _, _, _, htr, _⟩ := hco'
    exact cont _ h' tk _ hx (Nat.le_trans hge (Nat.le_of_lt hlt)) htab'.2 ⟨_, rfl⟩ htr
  | some cv =>
    refine wpAny_genexprCode_hit hcode (cd.code hPh ht) hf ?_
    exact cont cv s2.heap s2.toks ps (Heap.ExtBut.refl _ _) (Nat.le_refl _) hPh ⟨#[], by simp⟩ ht
end Mi
set_option autoImplicit true
set_option Elab.async false
set_option linter.all false
set_option maxRecDepth 100000
set_option maxHeartbeats 4000000
/-! MiG4: who draws from a generator expression: the next item; all, any; a list that is filled. -/
namespace Mi
open PySem PySem.Spec PyProof.Rows L2 GenW
/-- the generator at a, number g, sleeps, n items may come -/
structure GAt (P : GD) (A : Around) (n : Nat) (a : Addr) (g : Nat) (oa : Obj) (s : Shared) : Prop where
  isg : s.heap.IsGen a g
  obj : s.heap.get? a = some oa
  lim : s.heap.NoLimit
  at_ : ∃ gs, s.gens[g]? = some gs ∧ gs.Goes (model P.X.prog P.X.w) A.in1 (RGd P) (YG P) n (.send .none) (s.setGen g .running)
theorem isGen_of {h h' : Heap} {a : Addr} {g : Nat} {oa : Obj} (hg : h.IsGen a g) (e : h.get? a = some oa) (e' : h'.get? a = some oa) : h'.IsGen a g := by
  obtain ⟨o, nm, qn, ho, r⟩ := hg
  rw [e] at ho; cases ho
  exact ⟨oa, nm, qn, e', r⟩
theorem Inv.gens {X : Cx} {pins : List (Addr × Obj)} {σ : L2.St} {H : Hp} {s : Shared} (I : Inv X pins σ H s) {g' : Array GenState} (hb : AllBare g') : Inv X pins σ H { s with gens := g' } :=
  ⟨I.ok, I.os, hb, I.base, I.loc, I.cell, I.free, I.freeC, I.pin, I.hok, I.len⟩
theorem GS0.gens {P : GD} {al : List Addr} {S : Store} {H : Hp} {s : Shared} (h : GS0 P al S H s) {g' : Array GenState} (hb : AllBare g') : GS0 P al S H { s with gens := g' } := ⟨h.ext, h.wi, Mi.Inv.gens h.inv hb, h.own⟩
theorem GSt.gens {P : GD} {al : List Addr} {S : Store} {H : Hp} {i : Nat} {s : Shared} (h : GSt P al S H i s) {g' : Array GenState} (hb : AllBare g') : GSt P al S H i { s with gens := g' } := ⟨h.toGS0.gens hb, h.tn, h.fpn⟩
theorem g_next {P : GD} {A : Around} {n : Nat} {a : Addr} {g : Nat} {oa : Obj} {s : Shared} {Q : Option Value → Shared → Prop} {E : Value → Shared → Prop} (ok : SsOk P) (hpn : P.X.pn = [(a, oa)]) (hh : A.handled = none) (hd : A.depth < recursionLimit) (h : GAt P A n a g oa s) (hLk : ∀ vs h h', (∀ b ∈ P.Ss, h'.get? b = h.get? b) → P.Lk vs h → P.Lk vs h')
    (kpt : ∀ i h h', P.tn i h → (∀ b ∈ P.fp, ∀ o, h.get? b = some o → h'.get? b = some o) → P.tn i h')
    (hY : ∀ v s₁ acc vs y i al S H x, (RVs P.Γ.K al H acc vs ∧ P.Lk vs s₁.heap) → GSt P al S H i s₁ → Kept P.Ss s s₁ → RelV x v → RV P.Γ.K al H y x → P.C acc y (P.its.2.drop i) S → (P.its.2.drop i).length ≤ n - 1 → g < s₁.gens.size →
      (∀ s' acc' vs', Slept' P.Ss s₁ s' → s'.gens = s₁.gens → (RVs P.Γ.K al H acc' vs' ∧ P.Lk vs' s'.heap) → P.Ws acc' (P.its.2.drop i) S → ∃ m, n = m + 1 ∧ GAt P A m a g oa s') → Q (some v) s₁)
    (hF : ∀ s₁ acc vs al S H, (RVs P.Γ.K al H acc vs ∧ P.Lk vs s₁.heap) → GS0 P al S H s₁ → Kept P.Ss s s₁ → P.Fi acc S → Q none s₁) : wpAny (model P.X.prog P.X.w) A (pyNext (.ref a)) Q E s := by
  obtain ⟨hg, ho, hl, gs, hgs, hgo⟩ := h
  have hgl : g < s.gens.size := (Array.getElem?_eq_some_iff.mp hgs).1
  refine wpAny_gsz (n := g + 1) hgl (next_genG (F := FG P) (Er := fun _ _ => False) (Y := YG P) hh hl hd hg hgs hgo (fun v s₁ gs' hbare hv => ?_) (fun s₁ hp h' hk => ?_) fun e s₁ he => he.elim)
  · intro hsz
    obtain ⟨hkp, acc, vs, y, i, al, S, H, x, hle, hst, rv, ry, hv2, hC, kap⟩ := hv
    have hb1 : AllBare (s₁.setGen g gs').gens := allBare_setGen hst.inv.bare hbare
    have hst' : GSt P al S H i (s₁.setGen g gs') := GSt.gens (g' := (s₁.setGen g gs').gens) hst hb1
    have hgs1 : g < s₁.gens.size := by
      have q : (s₁.setGen g gs').gens.size = s₁.gens.size := setGen_size _ _ _
      have : g + 1 ≤ (s₁.setGen g gs').gens.size := hsz
      omega
    refine hY v _ acc vs y i al S H x hv2 hst' hkp rv ry hC hle hsz fun s' acc' vs' z eg hv' hw => ?_
    have e1 : s₁.heap.get? a = some oa := (hst.inv.pin (a, oa) (by rw [hpn]; exact List.mem_append_left _ (List.mem_singleton.mpr rfl))).1
    have nS : a ∉ P.Ss := fun hm => (ok.new a hm).2.2.2.1 (a, oa) (by rw [hpn]; exact List.mem_singleton.mpr rfl) rfl
    have e2 : s'.heap.get? a = some oa := z.keep a oa nS e1
    have hkk := kap (s'.setGen g .running) acc' vs' ⟨z.os, allBare_setGen z.bare rfl, z.keep, z.own⟩ hv' hw
    have hst2 : GSt P al S H i s' := hst'.woken ok kpt z
    cases n with
    | zero => exact hkk.elim
    | succ m => exact ⟨m, rfl, isGen_of hg ho e2, e2, hst2.inv.nolimit, gs', by rw [eg]; exact setGen_at hgs1, hkk⟩
  · intro hsz
    obtain ⟨hkp, acc, vs, al, S, H, hst, hv2, hfi⟩ := hp
    have hst' : GS0 P al S H { s₁.setGen g .finished with heap := h' } := by
      have hb1 : AllBare (s₁.setGen g .finished).gens := allBare_setGen hst.inv.bare rfl
      have h1 := hst.gens hb1
      have ep : pinsAt P.Ss h' = pinsAt P.Ss s₁.heap := pinsAt_eq fun b hb => by
        obtain ⟨o, e⟩ := hst.own b hb
        rw [e]; exact hk b o e
      exact ⟨h1.ext, h1.wi, by
        have h2 := h1.inv.kept (h' := h') (t' := (s₁.setGen g .finished).toks) hk
        show Inv P.X (pinsAt P.Ss h') P.σ H _
        rw [ep]
        exact h2, fun b hb => let ⟨o, e⟩ := hst.own b hb; ⟨o, hk b o e⟩⟩
    refine hF _ acc vs al S H ⟨hv2.1, hLk vs s₁.heap h' (fun b hb => ?_) hv2.2⟩ hst' (fun b hb o e => hk b o (hkp b hb o e)) hfi
    obtain ⟨o, e⟩ := hst.own b hb
    rw [e]; exact hk b o e

/-! ### all, any -/
/-- all (stop at false), any (stop at true) -/
theorem codeAny_all_G {P : GD} {A : Around} {a : Addr} {g : Nat} {oa : Obj} {R : Result → Shared → Prop} (ok : SsOk P) (hpn : P.X.pn = [(a, oa)]) (hh : A.handled = none) (hd : A.depth < recursionLimit) (hSs : P.Ss = []) (hLk : ∀ vs h, P.Lk vs h)
    (kpt : ∀ i h h', P.tn i h → (∀ b ∈ P.fp, ∀ o, h.get? b = some o → h'.get? b = some o) → P.tn i h')
    (hC : ∀ acc y xs S, P.C acc y xs S → ∃ b, y = .bl b ∧ (b = true → P.Ws acc xs S) ∧ (b = false → ∀ al H s, GS0 P al S H s → R (.ok (.ret (.bool false))) s))
    (hF : ∀ acc S al H s, P.Fi acc S → GS0 P al S H s → R (.ok (.ret (.bool true))) s) :
    ∀ (n : Nat) (s : Shared), GAt P A.in1 n a g oa s → codeAny (model P.X.prog P.X.w) A (.builtin "all.loop" ⟨[.ref a], []⟩) R s := by
  intro n
  induction n using Nat.strongRecOn with
  | ind n ih =>
    intro s h
    refine codeAny_builtin F.entry_all_loop ?_
    rw [Around.under_plainId F.plain_all_loop _]
    show wpAny _ A.in1 (pyNext (.ref a) >>= _) _ _ s
    refine wpAny_bind (g_next ok hpn hh hd h (fun _ _ _ _ _ => hLk _ _) kpt (fun v s₁ acc vs y i al S H x hv hst hkp rv ry hc hle hgs hz => ?_) (fun s₁ acc vs al S H hv hst hkp hfi => ?_))
    · obtain ⟨b, rfl, h1, h2⟩ := hC acc y _ S hc
      cases ry
      cases rv
      refine wpAny_bind (wpAny_holding (wpAny_truthy_bool ?_))
      refine wpAny_bind (wpAny_letGo ?_)
      cases b with
      | true =>
        obtain ⟨m, e, hz⟩ := hz s₁ acc vs ⟨rfl, hst.inv.bare, fun _ _ _ e => e, fun b hb => by rw [hSs] at hb; cases hb⟩ rfl ⟨hv.1, hLk _ _⟩ (h1 rfl)
        exact wpAny_pure ⟨plainId_quiet F.plain_all_loop _, ih m (by omega) s₁ hz⟩
      | false => exact wpAny_bind (wpAny_rule (wpAny_pure (h2 rfl al H s₁ hst.toGS0)))
    · exact wpAny_bind (wpAny_rule (wpAny_pure (hF acc S al H s₁ hfi hst)))
theorem codeAny_any_G {P : GD} {A : Around} {a : Addr} {g : Nat} {oa : Obj} {R : Result → Shared → Prop} (ok : SsOk P) (hpn : P.X.pn = [(a, oa)]) (hh : A.handled = none) (hd : A.depth < recursionLimit) (hSs : P.Ss = []) (hLk : ∀ vs h, P.Lk vs h)
    (kpt : ∀ i h h', P.tn i h → (∀ b ∈ P.fp, ∀ o, h.get? b = some o → h'.get? b = some o) → P.tn i h')
    (hC : ∀ acc y xs S, P.C acc y xs S → ∃ b, y = .bl b ∧ (b = false → P.Ws acc xs S) ∧ (b = true → ∀ al H s, GS0 P al S H s → R (.ok (.ret (.bool true))) s))
    (hF : ∀ acc S al H s, P.Fi acc S → GS0 P al S H s → R (.ok (.ret (.bool false))) s) :
    ∀ (n : Nat) (s : Shared), GAt P A.in1 n a g oa s → codeAny (model P.X.prog P.X.w) A (.builtin "any.loop" ⟨[.ref a], []⟩) R s := by
  intro n
  induction n using Nat.strongRecOn with
  | ind n ih =>
    intro s h
    refine codeAny_builtin F.entry_any_loop ?_
    rw [Around.under_plainId F.plain_any_loop _]
    show wpAny _ A.in1 (pyNext (.ref a) >>= _) _ _ s
    refine wpAny_bind (g_next ok hpn hh hd h (fun _ _ _ _ _ => hLk _ _) kpt (fun v s₁ acc vs y i al S H x hv hst hkp rv ry hc hle hgs hz => ?_) (fun s₁ acc vs al S H hv hst hkp hfi => ?_))
    · obtain ⟨b, rfl, h1, h2⟩ := hC acc y _ S hc
      cases ry
      cases rv
      refine wpAny_bind (wpAny_holding (wpAny_truthy_bool ?_))
      refine wpAny_bind (wpAny_letGo ?_)
      cases b with
      | false =>
        obtain ⟨m, e, hz⟩ := hz s₁ acc vs ⟨rfl, hst.inv.bare, fun _ _ _ e => e, fun b hb => by rw [hSs] at hb; cases hb⟩ rfl ⟨hv.1, hLk _ _⟩ (h1 rfl)
        exact wpAny_pure ⟨plainId_quiet F.plain_any_loop _, ih m (by omega) s₁ hz⟩
      | true => exact wpAny_bind (wpAny_rule (wpAny_pure (h2 rfl al H s₁ hst.toGS0)))
    · exact wpAny_bind (wpAny_rule (wpAny_pure (hF acc S al H s₁ hfi hst)))
/-- a list at S that is filled from the generator -/
theorem codeAny_fill_G {P : GD} {A : Around} {a : Addr} {g : Nat} {oa : Obj} {R : Result → Shared → Prop} {S : Addr} {res : Value} (ok : SsOk P) (hpn : P.X.pn = [(a, oa)]) (hh : A.handled = none) (hd : A.depth < recursionLimit) (hSs : P.Ss = [S])
    (hLk : ∀ vs h, P.Lk vs h ↔ ∃ us c, h.get? S = some (lstObj us c) ∧ Vals vs us.toList)
    (kpt : ∀ i h h', P.tn i h → (∀ b ∈ P.fp, ∀ o, h.get? b = some o → h'.get? b = some o) → P.tn i h')
    (hC : ∀ acc y xs S, P.C acc y xs S → acc.length < sizeLine ∧ P.Ws (acc ++ [y]) xs S)
    (hF : ∀ acc vs us c St al H s, P.Fi acc St → GS0 P al St H s → RVs P.Γ.K al H acc vs → Vals vs us.toList → s.heap.get? S = some (lstObj us c) → R (.ok (.ret res)) s) :
    ∀ (n : Nat) (s : Shared), GAt P A.in1 n a g oa s → codeAny (model P.X.prog P.X.w) A (.builtin "list.extend.loop" ⟨[.ref S, .ref a, res], []⟩) R s := by
  have hl : ∀ vs h h', (∀ b ∈ P.Ss, h'.get? b = h.get? b) → P.Lk vs h → P.Lk vs h' := fun vs h h' e z => by
    obtain ⟨us, c, z, r⟩ := (hLk vs h).mp z
    exact (hLk vs h').mpr ⟨us, c, (e S (by rw [hSs]; exact List.mem_singleton.mpr rfl)).trans z, r⟩
  intro n
  induction n using Nat.strongRecOn with
  | ind n ih =>
    intro s h
    refine codeAny_builtin F.entry_extend_loop ?_
    rw [Around.under_plainId F.plain_extend_loop _]
    show wpAny _ A.in1 (pyNext (.ref a) >>= _) _ _ s
    refine wpAny_bind (g_next ok hpn hh hd h hl kpt (fun v s₁ acc vs y i al St H x hv hst hkp rv ry hc hle hgs hz => ?_) (fun s₁ acc vs al St H hv hst hkp hfi => ?_))
    · obtain ⟨us, c, hS1, rvs⟩ := (hLk _ _).mp hv.2
      obtain ⟨hz1, hw⟩ := hC acc y _ St hc
      have hlen : us.size = acc.length := by
        have e1 := hv.1.length
        have e2 := rvs.length
        simp only [Array.length_toList] at e2
        omega
      show wpAny _ A.in1 (updateSeq S (·.push v) >>= _) _ _ _
      refine wpAny_bind ?_
      have keep3 : ∀ b o, b ≠ S → s₁.heap.get? b = some o → (s₁.heap.update S (Obj.mapSeq (·.push v))).get? b = some o := fun b o hbS e => (Heap.get?_update_other _ _ (Ne.symm hbS)).trans e
      have hS2 : (s₁.heap.update S (Obj.mapSeq (·.push v))).get? S = some (lstObj (us.push v) c) ∨ ∃ c', (s₁.heap.update S (Obj.mapSeq (·.push v))).get? S = some (lstObj (us.push v) c') := .inr ⟨_, Heap.get?_update_self _ hS1 rfl⟩
      obtain ⟨c', hS2⟩ : ∃ c', (s₁.heap.update S (Obj.mapSeq (·.push v))).get? S = some (lstObj (us.push v) c') := by
        rcases hS2 with z | z
        · exact ⟨_, z⟩
        · exact z
      refine wpAny_updateSeq hS1 rfl (wpAny_pure ⟨plainId_quiet F.plain_extend_loop _, ?_⟩) (by omega) (by show (us.push v).size ≤ sizeLine + 1; rw [Array.size_push]; omega)
      obtain ⟨m, e, hz⟩ := hz { s₁ with heap := s₁.heap.update S (Obj.mapSeq (·.push v)) } (acc ++ [y]) (vs ++ [x])
        ⟨rfl, hst.inv.bare, fun b o hb e => keep3 b o (fun q => hb (by rw [hSs, q]; exact List.mem_singleton.mpr rfl)) e, fun b hb => by
          rw [hSs] at hb
          rw [List.mem_singleton.mp hb]
          exact ⟨_, hS2, fun v z => by cases z⟩⟩ rfl ⟨hv.1.append (.cons ry .nil), (hLk _ _).mpr ⟨us.push v, c', hS2, by rw [Array.toList_push]; exact rvs.append (.cons rv .nil)⟩⟩ hw
      exact ih m (by omega) _ hz
    · obtain ⟨us, c, hS1, rvs⟩ := (hLk _ _).mp hv.2
      exact wpAny_pure (hF acc vs us c St al H s₁ hfi hst hv.1 rvs hS1)
end Mi
set_option autoImplicit true
set_option Elab.async false
set_option linter.all false
set_option maxRecDepth 100000
set_option maxHeartbeats 4000000
/-! MiG5: all, any, tuple of a generator expression. -/
namespace Mi
open PySem PySem.Spec PyProof.Rows L2 GenW
theorem G.blk {Γ : Gam} {Φ : Orc} {X : Cx} {W : WX} {lv : Nat} (g : G Γ Φ X W lv) {s : Shared} {H : Hp} {scope : Scope} {C : Addr} {cl : List (Str × Addr)} {fp : List Addr} : G Γ Φ (X.blk s H scope (compEnvC scope cl C X.env) fp) WF lv :=
  ⟨g.K, g.calm, g.nd, g.rm, g.blt, fun u s' ⟨a, B, sI, pins, σ, H, cls, d, _, _, _, _, _, _, _, _, w⟩ => w.elim, g.cal, g.con, g.dic, g.tab⟩
theorem G.gen {Γ : Gam} {Φ : Orc} {X : Cx} {W : WX} {lv : Nat} (g : G Γ Φ X W 1) {s : Shared} {H : Hp} {cenv : PySem.Env} {B : Around} {N' : List Str} {pn : List (Addr × Obj)} {fp : List Addr} (hB : ∀ k, Room (k + 8) X.A → Room k (B.deeper cenv)) (hN : N'.Nodup) :
    G Γ Φ (gX X s H cenv B N' pn fp) WF 0 :=
  ⟨g.K, rfl, hN, hB _ g.rm, g.blt, fun u s' ⟨a, B, sI, pins, σ, H, cls, d, _, _, _, _, _, _, _, _, w⟩ => w.elim, fun i x ks h hc hd => by
    obtain ⟨np, k, f, fd, ps, h1, h2, h3, h4⟩ := g.cal i x ks h hc hd
    exact ⟨np, k, f, fd, ps, h1, h2, hB _ h3, h4⟩, g.con, g.dic, .inl rfl⟩
/-- the environment of a generator expression -/
abbrev gρ (ρ : Env) (no : Nat) (caps : List Nat) : Env := List.replicate no none ++ caps.map fun i => (ρ[i]?).join
theorem RE.gen {K : PySem.W.Frag} {al : List Addr} {H : Hp} {ρ : Env} {σ : L2.St} (r : RE K al H ρ σ) (no : Nat) (caps : List Nat) : RE K al H (gρ ρ no caps) (gσ σ no caps) := by
  refine ⟨by simp, fun i d h => ?_⟩
  by_cases hi : i < no
  · rw [List.getElem?_append_left (by simpa using hi), List.getElem?_replicate, if_pos hi] at h; cases h
  · rw [List.getElem?_append_right (by simp; omega), List.length_replicate, List.getElem?_map] at h
    rw [List.getElem?_append_right (by simp; omega), List.length_replicate, List.getElem?_map]
    cases e : caps[i - no]? with
    | none => rw [e] at h; cases h
    | some j =>
      rw [e] at h
      have h : (ρ[j]?).join = some d := Option.some.inj h
      cases e2 : ρ[j]? with
      | none => rw [e2] at h; cases h
      | some o =>
        rw [e2] at h
        have h : o = some d := h
        subst h
        obtain ⟨v, h1, h2⟩ := r.at_ j d e2
        exact ⟨v, by show some ((σ[j]?).join) = _; rw [h1]; rfl, h2⟩
section
variable {X : Cx} {Γ : Gam} {Φ : Orc} {W : WX} {pos : Pos} {tg : Expr}
/-- what the parts of a generator expression give, in its frame -/
structure GParts (Γ : Gam) (Φ : Orc) (X : Cx) (el tg : Expr) (tests : List Expr) (ns : List Str) (caps : List Nat) (scope : Scope) (g : Tg) (ifs elt : E) : Prop where
  hg : ∀ (s : Shared) (H : Hp) (cenv : PySem.Env) (B : Around) (pn : List (Addr × Obj)) (fp : List Addr), cenv.scope = scope → (∀ k, Room (k + 8) X.A → Room k (B.deeper cenv)) → PG (gX X s H cenv B (gN X.N ns caps) pn fp) tg (TGm Γ g)
  ht : ∀ (s : Shared) (H : Hp) (cenv : PySem.Env) (B : Around) (pn : List (Addr × Obj)) (fp : List Addr), cenv.scope = scope → (∀ k, Room (k + 8) X.A → Room k (B.deeper cenv)) → PTs (gX X s H cenv B (gN X.N ns caps) pn fp) tests (TTAll Γ Φ WF ifs)
  he : ∀ (s : Shared) (H : Hp) (cenv : PySem.Env) (B : Around) (pn : List (Addr × Obj)) (fp : List Addr), cenv.scope = scope → (∀ k, Room (k + 8) X.A → Room k (B.deeper cenv)) → PE (gX X s H cenv B (gN X.N ns caps) pn fp) el (T Γ Φ WF elt)
/-- a generator that was made may be drawn from -/
theorem made_at {pins : List (Addr × Obj)} {σ : L2.St} {el iter : Expr} {tests : List Expr} {scope : Scope} {gpos : Pos} {ns : List Str} {caps : List Nat} {al : List Addr} {S1 : Store} {H1 : Hp} {J : It} {a : Addr} {s5 : Shared} {ρ : Env} {g : Tg} {ifs elt : E} {its : Items}
    (gx : G Γ Φ X W 1) (ok : GenOk X.N X.env.scope scope ns caps) (hgs : ∀ j ∈ tgS g, j < ns.length) (gp : GParts Γ Φ X el tg tests ns caps scope g ifs elt)
    (m : Made Γ X pins σ el tg iter tests scope gpos ns caps al S1 H1 J a s5) (w : WI Γ.K Γ.T al S1 H1) (r : RE Γ.K al H1 ρ σ) (hJ : Iw Γ al H1 J its)
    (B : Around) (hBh : B.handled = none) (hBf : B.frames = some X.stack) (hBr : ∀ (cenv : PySem.Env) k, Room (k + 8) X.A → Room k (B.in1.deeper cenv))
    (Ss : List Addr) (Ws : List D → List D → Store → Prop) (C : List D → D → List D → Store → Prop) (Fi : List D → Store → Prop) (Lk : List V → Heap → Prop) (s6 : Shared)
    (hSn : ∀ b ∈ Ss, s5.heap.objs.size ≤ b ∧ ∃ o, s6.heap.get? b = some o ∧ ∀ v, o.data ≠ .cell v) (hS6 : ∀ b o, s5.heap.get? b = some o → s6.heap.get? b = some o) (ho6 : s6.os = s5.os) (hg6 : s6.gens = s5.gens)
    (hLk : ∀ vs h h', (∀ b ∈ Ss, h'.get? b = h.get? b) → Lk vs h → Lk vs h') (hL0 : Lk [] s6.heap) (hW0 : Ws [] its.2 S1)
    (hnil : ∀ acc S, Ws acc [] S → still its.1 S ∧ Fi acc S) (hcons : ∀ acc x xs S, Ws acc (x :: xs) S → still its.1 S ∧ ((∃ y S', stepOf Φ (gρ ρ ns.length caps) g ifs elt x S = .ok (some y) S' ∧ C acc y xs S') ∨ ∃ S', stepOf Φ (gρ ρ ns.length caps) g ifs elt x S = .ok none S' ∧ Ws acc xs S')) :
    ∃ (P : GD) (n g' : Nat) (oa : Obj), P.Γ = Γ ∧ P.X.prog = X.prog ∧ P.X.w = X.w ∧ P.Ss = Ss ∧ P.Ws = Ws ∧ P.C = C ∧ P.Fi = Fi ∧ P.Lk = Lk ∧ P.its = its ∧ SsOk P ∧ P.X.pn = [(a, oa)] ∧ (∀ i h h', P.tn i h → (∀ b ∈ P.fp, ∀ o, h.get? b = some o → h'.get? b = some o) → P.tn i h') ∧
      GAt P B n a g' oa s6 ∧ (∀ al' S' H' s', GS0 P al' S' H' s' → Ext al H1 al' H' ∧ WI Γ.K Γ.T al' S' H' ∧ Inv X pins σ H' s' ) := by
  obtain ⟨s4, cl, code, bi, it, fp, tn, oa, I4, T', htn, hfp, hos, hbare, hk, h4a, ha5, hgen, hlim, hgens, hinv⟩ := m.run
  have I5 := hinv B.in1 hBh hBf
  have ha5' : (show Nat from a) < s5.heap.objs.size := ha5
  have h4a' : s4.heap.objs.size < (show Nat from a) := h4a
  have h45 : s4.heap.objs.size < s5.heap.objs.size := Nat.lt_trans h4a' ha5'
  generalize hce : genEnv scope cl s4.heap.objs.size code bi X.env = cenv at I5 hgens
  have hsc : cenv.scope = scope := by rw [← hce]; rfl
  have hcL : cenv.locals = s4.heap.objs.size := by rw [← hce]; rfl
  let P : GD := { Γ := Γ, Φ := Φ, X := gX X s4 H1 cenv B.in1 (gN X.N ns caps) [(a, oa)] fp, σ := gσ σ ns.length caps, its := its, al1 := al, H1 := H1, fp := fp, tn := tn, J := J, Ss := Ss, Ws := Ws, C := C, Fi := Fi, Lk := Lk }
  have pa : s5.heap.get? a = some oa ∧ H1 a = none := let z := I5.pin (a, oa) (List.mem_append_left _ (List.mem_singleton.mpr rfl)); ⟨z.1, z.2.1⟩
  have ok' : SsOk P := ⟨fun b hb => by
    obtain ⟨hn, _⟩ := hSn b hb
    have hn : s5.heap.objs.size ≤ (show Nat from b) := hn
    refine ⟨Nat.le_trans (Nat.le_of_lt h45) hn, fun z => ?_, fun x c e z => ?_, fun p hp z => ?_, fun hm => ?_⟩
    · have z : b = cenv.locals := z
      rw [hcL] at z
      exact absurd (Nat.lt_of_lt_of_le h45 hn) (by rw [z]; exact Nat.lt_irrefl _)
    · obtain ⟨w', q⟩ := I5.cell x c e
      have q1 : (show Nat from c) < s5.heap.objs.size := q.lt
      rw [z] at q1
      exact absurd (Nat.lt_of_lt_of_le q1 hn) (Nat.lt_irrefl _)
    · have hp : p ∈ [(a, oa)] := hp
      rw [List.mem_singleton.mp hp] at z
      have z : a = b := z
      rw [z] at ha5'
      exact absurd (Nat.lt_of_lt_of_le ha5' hn) (Nat.lt_irrefl _)
    · have q1 : (show Nat from b) < s4.heap.objs.size := (hfp b hm).2
      exact absurd (Nat.lt_of_lt_of_le (Nat.lt_trans q1 h45) hn) (Nat.lt_irrefl _), rfl⟩
  have I6 : Inv P.X (pinsAt Ss s6.heap) P.σ H1 s6 := by
    have e : s6 = { s5 with heap := s6.heap, toks := s6.toks, gens := s5.gens, drawn := s6.drawn } := by
      cases s6; cases s5; simp only at ho6 hg6; subst ho6; subst hg6; rfl
    have h1 : Inv P.X [] P.σ H1 { s5 with heap := s6.heap, toks := s6.toks, gens := s5.gens, drawn := s6.drawn } := by
      have h2 := Mi.Inv.gens (I5.kept (h' := s6.heap) (t' := s6.toks) hS6) I5.bare
      exact ⟨h2.ok, h2.os, h2.bare, h2.base, h2.loc, h2.cell, h2.free, h2.freeC, h2.pin, h2.hok, h2.len⟩
    rw [← e] at h1
    refine h1.pins_of fun p hp => ?_
    obtain ⟨hb, e1⟩ := of_pinsAt hp
    obtain ⟨hn, o, e2, hc⟩ := hSn _ hb
    rw [e1] at e2; cases e2
    refine ⟨e1, I5.hok.fresh hn, (ok'.new _ hb).2.1, fun hm => ?_, hc⟩
    have hm : p.1 ∈ frs X.stack := hm
    obtain ⟨_, o2, e3, _⟩ := I5.ok.funs.mem hm
    have q1 : (show Nat from p.1) < s4.heap.objs.size := Heap.lt_size e3
    exact absurd (Nat.lt_of_lt_of_le (Nat.lt_trans q1 h45) hn) (Nat.lt_irrefl _)
  have g6 : GSt P al S1 H1 0 s6 := ⟨⟨.refl, w, I6, fun b hb => let ⟨_, o, e, _⟩ := hSn b hb; ⟨o, e⟩⟩, T'.keep _ _ _ htn fun b hb o e => hS6 b o e, fun b hb => (hfp b hb).1.1⟩
  have g7 : GSt P al S1 H1 0 (s6.setGen s4.gens.size .running) := GSt.gens (g' := (s6.setGen s4.gens.size .running).gens) g6 (allBare_setGen I6.bare rfl)
  have hrm : ∀ k, Room (k + 8) X.A → Room k (B.in1.deeper cenv) := hBr cenv
  have hexf := I5.ok.exf
  refine ⟨P, its.2.length, s4.gens.size, oa, rfl, rfl, rfl, rfl, rfl, rfl, rfl, rfl, rfl, ok', rfl, T'.keep, ⟨hgen.keeps hS6, hS6 a oa pa.1, I6.nolimit, .fresh _, by rw [hg6]; exact hgens, ?_⟩, fun al' S' H' s' h => ?_⟩
  · refine ⟨rfl, ?_⟩
    refine seg_start (P := P) (by rw [over_comp (.inr rfl)]) T' g7.tn ?_
    refine seg_loop (P := P) (ρ := gρ ρ ns.length caps) (g := g) (ifs := ifs) (elt := elt) rfl rfl rfl rfl (by rw [hsc]; exact ok.co) ok' gx.K T' (fun b hb => ⟨(hexf b hb).1, I5.ok.exfs b hb, .inl hb, (hexf b hb).2, fun p hp z => ?_⟩) hJ (r.gen _ _) ⟨S1, w⟩
      (gp.hg _ _ _ _ _ _ hsc hrm) (gp.ht _ _ _ _ _ _ hsc hrm) (gp.he _ _ _ _ _ _ hsc hrm) (fun j hj => ?_) ⟨hnil, hcons⟩ rfl hLk
      its.2.length 0 its.2.length _ _ al S1 H1 [] [] rfl (Nat.zero_le _) (Nat.le_refl _) (fun _ _ _ e => e) g7 ⟨.nil, hL0⟩ (by rw [List.drop_zero]; exact hW0)
    · have hp : p ∈ [(a, oa)] := hp
      rw [List.mem_singleton.mp hp] at z
      have z : a = b := z
      have q1 : (show Nat from b) < s4.heap.objs.size := (hfp b hb).2
      rw [z] at h4a'
      exact absurd (Nat.lt_trans q1 h4a') (Nat.lt_irrefl _)
    · show (gσ σ ns.length caps)[j]? = some none
      rw [List.getElem?_append_left (by simpa using hgs j hj), List.getElem?_replicate, if_pos (hgs j hj)]
  · have I' := h.inv
    refine ⟨h.ext, h.wi, I4.call' (ch := fp) I'.os I'.base I'.hok I'.bare fun b hb => ⟨(hfp b hb).1.2.2.2.1, (hfp b hb).1.2.1, (hfp b hb).1.2.2.2.2.1, (hfp b hb).1.2.2.2.2.2⟩⟩
noncomputable def genR (k : Gk) (its : Items) (step : D → M (Option D)) (S : Store) : Res D := match k with
  | .all => quant false its.1 step its.2 S
  | .any => quant true its.1 step its.2 S
  | .tup => (comp its.1 step its.2 [] S).bind fun acc S => .ok (.tup acc) S
  | .sum => (comp its.1 step its.2 [] S).bind fun acc S => match dInts acc with
    | some is => if is.all big64 then .ok (.int is.sum) S else .bad
    | none => .bad
  | .sorted => (comp its.1 step its.2 [] S).bind fun acc S => sortR acc S
theorem ev_gen {k : Gk} {no : Nat} {caps : List Nat} {g : Tg} {it ifs elt : E} {ρ : Env} {S : Store} : ev Φ (.gen k no caps g it ifs elt) ρ S = (evIt Φ it ρ S).bind fun its S => genR k its (stepOf Φ (gρ ρ no caps) g ifs elt) S := by
  cases k <;> rfl
/-- the generator's making, with all that is known then -/
theorem gen_arg {pins : List (Addr × Obj)} {σ : L2.St} {H : Hp} {s : Shared} {el iter : Expr} {tests : List Expr} {scope : Scope} {gpos : Pos} {ns : List Str} {caps : List Nat} {it : E} {Q' : Value → Shared → Prop}
    {β : Type} {al : List Addr} {ρ : Env} {S : Store} {f : Items → M β} {kk : β → List Addr → Store → Hp → Prop}
    (gx : G Γ Φ X W 1) (ok : GenOk X.N X.env.scope scope ns caps) (hi : PI X tg iter (TIt Γ Φ W it)) (hs : ∀ v, genFold iter X.env v = pure v) (I : Inv X pins σ H s) (w : WI Γ.K Γ.T al S H) (r : RE Γ.K al H ρ σ)
    (h : Post Γ (fun c d H => W c d σ H) al H ((evIt Φ it ρ S).bind f) kk)
    (hQ : ∀ al1 S1 H1 J its a s5, WI Γ.K Γ.T al1 S1 H1 → RE Γ.K al1 H1 ρ σ → Iw Γ al1 H1 J its → Post Γ (fun c d H => W c d σ H) al1 H1 (f its S1) kk → Made Γ X pins σ el tg iter tests scope gpos ns caps al1 S1 H1 J a s5 → Q' (.ref a) s5) :
    wpAny (model X.prog X.w) X.A (eval (.GeneratorExp el [⟨tg, iter, tests, 0⟩] scope gpos) X.env) Q' X.xe s := by
  rcases gx.tab with z | ⟨c, P, hcode, TB, hP⟩
  · cases z
  refine gen_make (Γ := Γ) (R := fun al1 S1 H1 J => ∃ its, WI Γ.K Γ.T al1 S1 H1 ∧ RE Γ.K al1 H1 ρ σ ∧ Iw Γ al1 H1 J its ∧ Post Γ (fun c d H => W c d σ H) al1 H1 (f its S1) kk) gx.rm TB hcode ok hi hs I (fun al S H' w => w.tab P hP) ?_ ?_ ?_
  · exact TIt_of w r (Post.bind h) fun its al1 S1 H1 J x w1 r1 hJ q => ⟨al1, S1, w1, its, w1, r1, hJ, q⟩
  · rintro al1 S1 H1 J ps qs ⟨its, w1, r1, hJ, q⟩ e t more rfl
    obtain ⟨w2, x2, hT⟩ := w1.tbl e t
    exact ⟨its, w2, r1.ext w1 x2, fun al' S' H' x' => hJ al' S' H' (x2.trans x'), q.move x2⟩
  · rintro al1 S1 H1 J a s5 _ ⟨its, w1, r1, hJ, q⟩ m
    exact hQ al1 S1 H1 J its a s5 w1 r1 hJ q m
theorem quant_nil {stop : Bool} {g : Option (Nat × List D)} {step : D → M (Option D)} {S : Store} (h : quant stop g step [] S ≠ .bad) : still g S ∧ quant stop g step [] S = .ok (.bl (!stop)) S := by
  by_cases hs : still g S
  · exact ⟨hs, by unfold quant; rw [if_pos hs]⟩
  · exact absurd (by unfold quant; rw [if_neg hs]) h
theorem quant_cons {stop : Bool} {g : Option (Nat × List D)} {step : D → M (Option D)} {x : D} {xs : List D} {S : Store} (h : quant stop g step (x :: xs) S ≠ .bad) : still g S ∧
    ((∃ y S', step x S = .ok (some y) S' ∧ ∃ b, y = .bl b ∧ (b = !stop → quant stop g step (x :: xs) S = quant stop g step xs S') ∧ (b = stop → quant stop g step (x :: xs) S = .ok (.bl stop) S')) ∨ ∃ S', step x S = .ok none S' ∧ quant stop g step (x :: xs) S = quant stop g step xs S') := by
  by_cases hs : still g S
  · refine ⟨hs, ?_⟩
    have e : quant stop g step (x :: xs) S = (match step x S with
      | .ok (some (.bl b)) S' => if b = stop then .ok (.bl stop) S' else quant stop g step xs S'
      | .ok none S' => quant stop g step xs S'
      | _ => .bad) := by
      rw [quant]
      refine (if_pos hs).trans ?_
      cases step x S with
      | ok o S' => cases o with
        | none => rfl
        | some y => cases y <;> rfl
      | _ => rfl
    rw [e] at h ⊢
    cases z : step x S with
    | ok o S' =>
      cases o with
      | some y =>
        rw [z] at h
        cases y with
        | bl b => exact .inl ⟨_, S', rfl, b, rfl, fun hb => by subst hb; cases stop <;> rfl, fun hb => by subst hb; simp⟩
        | _ => exact absurd rfl h
      | none => exact .inr ⟨S', rfl, rfl⟩
    | ex c v S' => rw [z] at h; exact absurd rfl h
    | bad => rw [z] at h; exact absurd rfl h
  · exact absurd (by rw [quant]; rw [if_neg hs]) h
theorem room2 {A : Around} {k : Nat} (r : Room (k + 8) A) (cenv : PySem.Env) : Room k (A.in1.in1.deeper cenv) := (((r.mono (by omega : k + 1 + 1 + 1 ≤ k + 8)).in1).in1).deeper cenv
theorem room4 {A : Around} {k : Nat} (r : Room (k + 8) A) (cenv : PySem.Env) : Room k (A.in1.in1.in1.in1.deeper cenv) := (((((r.mono (by omega : k + 1 + 1 + 1 + 1 + 1 ≤ k + 8)).in1).in1).in1).in1).deeper cenv
theorem s_gall {el iter : Expr} {tests : List Expr} {scope : Scope} {gpos p : Pos} {ns : List Str} {caps : List Nat} {g : Tg} {it ifs elt : E}
    (gx : G Γ Φ X W 1) (hgl : glB X.env.scope "all" = true) (ok : GenOk X.N X.env.scope scope ns caps) (hgs : ∀ j ∈ tgS g, j < ns.length) (gp : GParts Γ Φ X el tg tests ns caps scope g ifs elt)
    (hi : PI X tg iter (TIt Γ Φ W it)) (hs : ∀ v, genFold iter X.env v = pure v) :
    PE X (.Call (.Name "all" p) [.GeneratorExp el [⟨tg, iter, tests, 0⟩] scope gpos] [] pos) (T Γ Φ W (.gen .all ns.length caps g it ifs elt)) := by
  refine ⟨fun pins s σ H Q I ⟨al, ρ, S, w, r, h⟩ => ?_⟩
  have hm : X.mg "all" = none := gx.blt _ (by decide +kernel)
  rw [ev_gen] at h
  have hbo : bootBuiltins "all" = some (.builtin "all") := by decide +kernel
  refine wpAny_Call_Name_kw (ld_blt I (glOf hgl) hm hbo ?_ (by decide) (by decide))
  refine PyProof.Rows.callWith_builtin1 ?_ (star_ok rfl) (by rfl)
  rw [star_ok (by rfl : starB (.GeneratorExp el [⟨tg, iter, tests, 0⟩] scope gpos) = false)]
  show wpAny _ _ (spliced ((false, eval (.GeneratorExp el [⟨tg, iter, tests, 0⟩] scope gpos) X.env) :: backTo pos (starEach [] X.env))) _ _ s
  refine Calls.spliced_cons (gen_arg gx ok hi hs I w r h fun al1 S1 H1 J its a s5 w1 r1 hJ q m => ?_)
  refine Calls.spliced_nil ?_
  generalize hst : stepOf Φ (gρ ρ ns.length caps) g ifs elt = step at q
  have q : Post Γ (fun c d H => W c d σ H) al1 H1 (quant false its.1 step its.2 S1) (KV' Γ Q) := q
  have hnb : quant false its.1 step its.2 S1 ≠ .bad := fun z => by rw [z] at q; exact q
  obtain ⟨P, n, g', oa, e1, e2, e3, e4, e5, e6, e7, e8, e9, okP, hpn, kpt, gat, back⟩ := made_at gx ok hgs gp m w1 r1 hJ X.A.in1 gx.rm.hd (by exact I.ok.frames) (fun cenv k hr => room2 hr cenv) []
    (fun _ xs S => quant false its.1 step its.2 S1 = quant false its.1 step xs S)
    (fun _ y xs S => ∃ b, y = .bl b ∧ (b = true → quant false its.1 step its.2 S1 = quant false its.1 step xs S) ∧ (b = false → quant false its.1 step its.2 S1 = .ok (.bl false) S))
    (fun _ S => quant false its.1 step its.2 S1 = .ok (.bl true) S) (fun _ _ => True) s5 (fun b hb => by cases hb) (fun _ _ e => e) rfl rfl (fun _ _ _ _ _ => trivial) trivial rfl
    (fun acc S e => by
      obtain ⟨h1, h2⟩ := quant_nil (stop := false) (g := its.1) (step := step) (S := S) (by rw [← e]; exact hnb)
      exact ⟨h1, e.trans h2⟩)
    (fun acc x xs S e => by
      obtain ⟨h1, h2⟩ := quant_cons (stop := false) (g := its.1) (step := step) (x := x) (xs := xs) (S := S) (by rw [← e]; exact hnb)
      refine ⟨h1, ?_⟩
      rw [hst]
      rcases h2 with ⟨y, S', z1, b, z2, z3, z4⟩ | ⟨S', z1, z2⟩
      · exact .inl ⟨y, S', z1, b, z2, fun hb => e.trans (z3 hb), fun hb => e.trans (z4 hb)⟩
      · exact .inr ⟨S', z1, e.trans z2⟩)
  have fin : ∀ b al' S' H' s', quant false its.1 step its.2 S1 = .ok (.bl b) S' → GS0 P al' S' H' s' → EP X pins σ Q (.bool b) s' := fun b al' S' H' s' e h => by
    obtain ⟨x, w', I'⟩ := back al' S' H' s' h
    rw [e] at q
    exact ⟨.bl b, H', I', rfl, q al' H' x w' _ (.bl b)⟩
  refine call_function_tree PySem.F.kind_all PySem.F.plain_all PySem.F.entry_all (PySem.F.args_all1 _) ?_
  unfold Builtin.«all»
  refine wpAny_bind (m := oneArg "all" _) (wpAny_pure ?_)
  refine wpAny_bind (wpAny_pyIter_gen gat.isg ?_)
  rw [← e2, ← e3]
  exact wpAny_pure ⟨plainId_quiet PySem.F.plain_all_loop _, codeAny_all_G okP hpn gx.rm.hd (by have := gx.rm.dp; omega) e4 (fun vs h => by rw [e8]; trivial) kpt
    (fun acc y xs S hc => by
      rw [e6] at hc
      rw [e5]
      obtain ⟨b, z1, z2, z3⟩ := hc
      exact ⟨b, z1, z2, fun hb al H s h => fin false al S H s (z3 hb) h⟩)
    (fun acc S al H s hf h => by
      rw [e7] at hf
      exact fin true al S H s hf h) n s5 gat⟩
theorem s_gany {el iter : Expr} {tests : List Expr} {scope : Scope} {gpos p : Pos} {ns : List Str} {caps : List Nat} {g : Tg} {it ifs elt : E}
    (gx : G Γ Φ X W 1) (hgl : glB X.env.scope "any" = true) (ok : GenOk X.N X.env.scope scope ns caps) (hgs : ∀ j ∈ tgS g, j < ns.length) (gp : GParts Γ Φ X el tg tests ns caps scope g ifs elt)
    (hi : PI X tg iter (TIt Γ Φ W it)) (hs : ∀ v, genFold iter X.env v = pure v) :
    PE X (.Call (.Name "any" p) [.GeneratorExp el [⟨tg, iter, tests, 0⟩] scope gpos] [] pos) (T Γ Φ W (.gen .any ns.length caps g it ifs elt)) := by
  refine ⟨fun pins s σ H Q I ⟨al, ρ, S, w, r, h⟩ => ?_⟩
  have hm : X.mg "any" = none := gx.blt _ (by decide +kernel)
  rw [ev_gen] at h
  have hbo : bootBuiltins "any" = some (.builtin "any") := by decide +kernel
  refine wpAny_Call_Name_kw (ld_blt I (glOf hgl) hm hbo ?_ (by decide) (by decide))
  refine PyProof.Rows.callWith_builtin1 ?_ (star_ok rfl) (by rfl)
  rw [star_ok (by rfl : starB (.GeneratorExp el [⟨tg, iter, tests, 0⟩] scope gpos) = false)]
  show wpAny _ _ (spliced ((false, eval (.GeneratorExp el [⟨tg, iter, tests, 0⟩] scope gpos) X.env) :: backTo pos (starEach [] X.env))) _ _ s
  refine Calls.spliced_cons (gen_arg gx ok hi hs I w r h fun al1 S1 H1 J its a s5 w1 r1 hJ q m => ?_)
  refine Calls.spliced_nil ?_
  generalize hst : stepOf Φ (gρ ρ ns.length caps) g ifs elt = step at q
  have q : Post Γ (fun c d H => W c d σ H) al1 H1 (quant true its.1 step its.2 S1) (KV' Γ Q) := q
  have hnb : quant true its.1 step its.2 S1 ≠ .bad := fun z => by rw [z] at q; exact q
  obtain ⟨P, n, g', oa, e1, e2, e3, e4, e5, e6, e7, e8, e9, okP, hpn, kpt, gat, back⟩ := made_at gx ok hgs gp m w1 r1 hJ X.A.in1 gx.rm.hd (by exact I.ok.frames) (fun cenv k hr => room2 hr cenv) []
    (fun _ xs S => quant true its.1 step its.2 S1 = quant true its.1 step xs S)
    (fun _ y xs S => ∃ b, y = .bl b ∧ (b = false → quant true its.1 step its.2 S1 = quant true its.1 step xs S) ∧ (b = true → quant true its.1 step its.2 S1 = .ok (.bl true) S))
    (fun _ S => quant true its.1 step its.2 S1 = .ok (.bl false) S) (fun _ _ => True) s5 (fun b hb => by cases hb) (fun _ _ e => e) rfl rfl (fun _ _ _ _ _ => trivial) trivial rfl
    (fun acc S e => by
      obtain ⟨h1, h2⟩ := quant_nil (stop := true) (g := its.1) (step := step) (S := S) (by rw [← e]; exact hnb)
      exact ⟨h1, e.trans h2⟩)
    (fun acc x xs S e => by
      obtain ⟨h1, h2⟩ := quant_cons (stop := true) (g := its.1) (step := step) (x := x) (xs := xs) (S := S) (by rw [← e]; exact hnb)
      refine ⟨h1, ?_⟩
      rw [hst]
      rcases h2 with ⟨y, S', z1, b, z2, z3, z4⟩ | ⟨S', z1, z2⟩
      · exact .inl ⟨y, S', z1, b, z2, fun hb => e.trans (z3 hb), fun hb => e.trans (z4 hb)⟩
      · exact .inr ⟨S', z1, e.trans z2⟩)
  have fin : ∀ b al' S' H' s', quant true its.1 step its.2 S1 = .ok (.bl b) S' → GS0 P al' S' H' s' → EP X pins σ Q (.bool b) s' := fun b al' S' H' s' e h => by
    obtain ⟨x, w', I'⟩ := back al' S' H' s' h
    rw [e] at q
    exact ⟨.bl b, H', I', rfl, q al' H' x w' _ (.bl b)⟩
  refine call_function_tree PySem.F.kind_any PySem.F.plain_any PySem.F.entry_any (PySem.F.args_any1 _) ?_
  unfold Builtin.«any»
  refine wpAny_bind (m := oneArg "any" _) (wpAny_pure ?_)
  refine wpAny_bind (wpAny_pyIter_gen gat.isg ?_)
  rw [← e2, ← e3]
  exact wpAny_pure ⟨plainId_quiet PySem.F.plain_any_loop _, codeAny_any_G okP hpn gx.rm.hd (by have := gx.rm.dp; omega) e4 (fun vs h => by rw [e8]; trivial) kpt
    (fun acc y xs S hc => by
      rw [e6] at hc
      rw [e5]
      obtain ⟨b, z1, z2, z3⟩ := hc
      exact ⟨b, z1, z2, fun hb al H s h => fin true al S H s (z3 hb) h⟩)
    (fun acc S al H s hf h => by
      rw [e7] at hf
      exact fin false al S H s hf h) n s5 gat⟩
theorem comp_len {g : Option (Nat × List D)} {step : D → M (Option D)} : ∀ {xs acc acc' : List D} {S S' : Store}, comp g step xs acc S = .ok acc' S' → acc.length ≤ sizeLine → acc'.length ≤ sizeLine
  | [], acc, acc', S, S', h, hl => by
    obtain ⟨_, e⟩ := comp_nil (g := g) (step := step) (acc := acc) (S := S) (by rw [h]; exact fun z => nomatch z)
    rw [e] at h
    cases h
    exact hl
  | x :: xs, acc, acc', S, S', h, hl => by
    obtain ⟨_, e⟩ := comp_cons (g := g) (step := step) (x := x) (xs := xs) (acc := acc) (S := S) (by rw [h]; exact fun z => nomatch z)
    rcases e with ⟨y, S2, _, hz, e⟩ | ⟨S2, _, e⟩
    · exact comp_len (e.symm.trans h) (by simp; omega)
    · exact comp_len (e.symm.trans h) hl
theorem s_gtup {el iter : Expr} {tests : List Expr} {scope : Scope} {gpos p : Pos} {ns : List Str} {caps : List Nat} {g : Tg} {it ifs elt : E}
    (gx : G Γ Φ X W 1) (hgl : glB X.env.scope "tuple" = true) (ok : GenOk X.N X.env.scope scope ns caps) (hgs : ∀ j ∈ tgS g, j < ns.length) (gp : GParts Γ Φ X el tg tests ns caps scope g ifs elt)
    (hi : PI X tg iter (TIt Γ Φ W it)) (hs : ∀ v, genFold iter X.env v = pure v) :
    PE X (.Call (.Name "tuple" p) [.GeneratorExp el [⟨tg, iter, tests, 0⟩] scope gpos] [] pos) (T Γ Φ W (.gen .tup ns.length caps g it ifs elt)) := by
  refine ⟨fun pins s σ H Q I ⟨al, ρ, S, w, r, h⟩ => ?_⟩
  have hm : X.mg "tuple" = none := gx.blt _ (by decide +kernel)
  rw [ev_gen] at h
  have hbo : bootBuiltins "tuple" = some (.type "tuple") := by decide +kernel
  refine wpAny_Call_Name_kw (ld_blt I (glOf hgl) hm hbo ?_ (by decide) (by decide))
  refine PyProof.Rows.callWith_type1 ?_ (star_ok rfl) (by rfl)
  rw [star_ok (by rfl : starB (.GeneratorExp el [⟨tg, iter, tests, 0⟩] scope gpos) = false)]
  show wpAny _ _ (spliced ((false, eval (.GeneratorExp el [⟨tg, iter, tests, 0⟩] scope gpos) X.env) :: backTo pos (starEach [] X.env))) _ _ s
  refine Calls.spliced_cons (gen_arg gx ok hi hs I w r h fun al1 S1 H1 J its a s5 w1 r1 hJ q m => ?_)
  refine Calls.spliced_nil ?_
  generalize hst : stepOf Φ (gρ ρ ns.length caps) g ifs elt = step at q
  have q : Post Γ (fun c d H => W c d σ H) al1 H1 ((comp its.1 step its.2 [] S1).bind fun acc S => .ok (.tup acc) S) (KV' Γ Q) := q
  have hnb : comp its.1 step its.2 [] S1 ≠ .bad := fun z => by rw [z] at q; exact q
  obtain ⟨gg, hgen⟩ : ∃ gg, s5.heap.IsGen a gg := let ⟨_, _, _, _, _, _, _, _, _, _, _, _, _, _, _, _, _, z, _⟩ := m.run; ⟨_, z⟩
  have ha5 : (show Nat from a) < s5.heap.objs.size := let ⟨o, _, _, ho, _⟩ := hgen; Heap.lt_size ho
  -- the end: a new tuple of all that came
  refine callType_codes (Q₁ := fun obj s₁ => s₁.TypeIs obj "tuple" ∧ EP X pins σ Q obj s₁) PySem.F.called_tuple (PySem.F.typeCall_tuple_1 _) PySem.F.entry_object_init ?_ fun obj s₁ h₁ => ?_
  · refine codeAny_of_tree ?_
    show wpAny _ X.A.in1.in1 (do checkBuiltinCall "tuple.__new__" ⟨[.type "tuple", .ref a], []⟩; again (.builtin "tuple.__new__" ⟨[.type "tuple", .ref a], []⟩)) _ _ s5
    refine wpAny_bind (wpAny_of_eq (PySem.F.newCall_tuple_1 _) (wpAny_pure ⟨plainId_quiet PySem.F.plain_tuple_new _, codeAny_builtin PySem.F.entry_tuple_new ?_⟩))
    rw [Around.under_plainId PySem.F.plain_tuple_new _]
    have hsub := sub_tuple_self
    have hinit := init_tuple_lookup
    have hmh := madeHere_tuple
    have hTI : s5.TypeIs (.ref a) "generator" := hgen.typeIs
    wp_walk using wpAny_typeOf hTI
    refine codeAny_builtin PySem.F.entry_proto_collect ?_
    rw [Around.under_plainId PySem.F.plain_proto_collect _]
    show wpAny _ X.A.in1.in1.in1 (newList [] >>= fun l => again (.builtin "list.__iadd__" ⟨[l, .ref a], []⟩)) _ _ s5
    refine wpAny_bind (wpAny_newObj_type ?_ (by show 0 ≤ sizeLine; decide))
    refine wpAny_pure ⟨plainId_quiet PySem.F.plain_list_iadd _, codeAny_builtin PySem.F.entry_list_iadd ?_⟩
    rw [Around.under_plainId PySem.F.plain_list_iadd _]
    have k1 : ∀ b o, s5.heap.get? b = some o → (s5.heap.push { cls := .type "list", data := .seq ([] : List Value).toArray }).get? b = some o := fun b o e => Heap.get?_push_of_some _ e
    show wpAny _ X.A.in1.in1.in1 (Builtin.List.listExtendWith (.ref s5.heap.objs.size) (.ref a) (.ref s5.heap.objs.size)) _ _ _
    unfold Builtin.List.listExtendWith
    have gty : ∀ {h : Heap}, (∀ b o, s5.heap.get? b = some o → h.get? b = some o) → h.IsGen a gg := fun {h} q => hgen.keeps q
    refine wpAny_bind (wpAny_typeOf (Heap.IsGen.typeIs (s := { s5 with heap := _ }) (gty k1)) ?_)
    have hne : s5.heap.objs.size ≠ a := fun z => absurd ha5 (by rw [← z]; exact Nat.lt_irrefl _)
    have h1 : Builtin.List.listSameRef (.ref s5.heap.objs.size) (.ref a) = false := by simp [Builtin.List.listSameRef, hne]
    have h2 : (Value.type "generator" == Value.type "list") = false := by decide
    have h3 : (Value.type "generator" == Value.type "tuple") = false := by decide
    simp only [h1, h2, h3, Bool.or_false, Bool.false_eq_true, if_false]
    refine wpAny_bind (wpAny_pyIter_gen (s := { s5 with heap := _ }) (gty k1) ?_)
    refine wpAny_bind (wpAny_holding ?_)
    unfold Builtin.List.listLengthHint
    refine wpAny_bind (wpAny_specialOf (Heap.IsGen.typeIs (s := { s5 with heap := _ }) (gty k1)) PySem.F.gen_no_len ?_)
    show wpAny _ X.A.in1.in1.in1 (specialOf (Value.ref a) (Str.ofString "__length_hint__") >>= _) _ _ _
    refine wpAny_bind (wpAny_specialOf (Heap.IsGen.typeIs (s := { s5 with heap := _ }) (gty k1)) PySem.F.gen_no_hint ?_)
    refine wpAny_pure ?_
    show wpAny _ X.A.in1.in1.in1 (rule "list.extend.makes-room" >>= fun _ => Builtin.List.listTouch (.ref s5.heap.objs.size) >>= fun _ =>
      again (.builtin "list.extend.loop" ⟨[.ref s5.heap.objs.size, .ref a, .ref s5.heap.objs.size], []⟩)) _ _ _
    refine wpAny_bind (wpAny_rule ?_)
    have hS₁ : (s5.heap.push { cls := .type "list", data := .seq ([] : List Value).toArray }).get? s5.heap.objs.size = some { cls := .type "list", data := .seq ([] : List Value).toArray } := Heap.get?_push_size _ rfl
    refine wpAny_bind ?_
    show wpAny _ X.A.in1.in1.in1 (updateSeq s5.heap.objs.size (·.push .none) >>= fun _ => updateSeq s5.heap.objs.size (·.pop)) _ _ _
    refine wpAny_bind (wpAny_updateSeq hS₁ rfl ?_)
    have hS₂ := Heap.get?_update_self (Obj.mapSeq (·.push Value.none)) hS₁ rfl
    refine wpAny_updateSeq (hz := by seq_fits) hS₂ rfl ?_
    have hS₃ := Heap.get?_update_self (Obj.mapSeq (·.pop)) hS₂ rfl
    have k3 : ∀ b o, s5.heap.get? b = some o → (((s5.heap.push { cls := .type "list", data := .seq ([] : List Value).toArray }).update s5.heap.objs.size (Obj.mapSeq (·.push Value.none))).update s5.heap.objs.size (Obj.mapSeq (·.pop))).get? b = some o := fun b o e => by
      have hb : s5.heap.objs.size ≠ b := fun z => absurd (Heap.lt_size e) (by rw [← z]; exact Nat.lt_irrefl _)
      exact (Heap.get?_update_other _ _ hb).trans ((Heap.get?_update_other _ _ hb).trans (k1 b o e))
    generalize h6 : ((s5.heap.push { cls := .type "list", data := .seq ([] : List Value).toArray }).update s5.heap.objs.size (Obj.mapSeq (·.push Value.none))).update s5.heap.objs.size (Obj.mapSeq (·.pop)) = hp6 at hS₃ k3
    obtain ⟨c6, hS6⟩ : ∃ c, hp6.get? s5.heap.objs.size = some (lstObj #[] c) := ⟨_, hS₃⟩
    obtain ⟨P, n, g', oa, e1, e2, e3, e4, e5, e6, e7, e8, e9, okP, hpn, kpt, gat, back⟩ := made_at gx ok hgs gp m w1 r1 hJ X.A.in1.in1.in1 gx.rm.hd (by exact I.ok.frames) (fun cenv k hr => room4 hr cenv) [s5.heap.objs.size]
      (fun acc xs S => comp its.1 step its.2 [] S1 = comp its.1 step xs acc S)
      (fun acc y xs S => acc.length < sizeLine ∧ comp its.1 step its.2 [] S1 = comp its.1 step xs (acc ++ [y]) S)
      (fun acc S => comp its.1 step its.2 [] S1 = .ok acc S) (fun vs h => ∃ us c, h.get? s5.heap.objs.size = some (lstObj us c) ∧ Vals vs us.toList) { s5 with heap := hp6 }
      (fun b hb => by rw [List.mem_singleton.mp hb]; exact ⟨Nat.le_refl _, _, hS6, fun v z => by cases z⟩) k3 rfl rfl
      (fun vs h h' e ⟨us, c, z, rr⟩ => ⟨us, c, (e _ (List.mem_singleton.mpr rfl)).trans z, rr⟩) ⟨#[], c6, hS6, .nil⟩ rfl
      (fun acc S e => by
        obtain ⟨h1, h2⟩ := comp_nil (g := its.1) (step := step) (acc := acc) (S := S) (by rw [← e]; exact hnb)
        exact ⟨h1, e.trans h2⟩)
      (fun acc x xs S e => by
        obtain ⟨h1, h2⟩ := comp_cons (g := its.1) (step := step) (x := x) (xs := xs) (acc := acc) (S := S) (by rw [← e]; exact hnb)
        refine ⟨h1, ?_⟩
        rw [hst]
        rcases h2 with ⟨y, S', z1, z2, z3⟩ | ⟨S', z1, z2⟩
        · exact .inl ⟨y, S', z1, z2, e.trans z3⟩
        · exact .inr ⟨S', z1, e.trans z2⟩)
    rw [← e2, ← e3]
    refine wpAny_pure ⟨plainId_quiet PySem.F.plain_extend_loop _, codeAny_fill_G (A := X.A.in1.in1) (S := s5.heap.objs.size) okP hpn gx.rm.hd (by have := gx.rm.dp; show X.A.depth < _; omega) e4 (fun vs h => by rw [e8]) kpt
      (fun acc y xs S hc => by rw [e6] at hc; rw [e5]; exact hc) (fun acc vs us c St al' H' s' hf h rr rv hS => ?_) n _ gat⟩
    rw [e7] at hf
    rw [e1] at rr
    obtain ⟨x, w', I'⟩ := back al' St H' s' h
    have hf : comp its.1 step its.2 [] S1 = .ok acc St := hf
    rw [hf] at q
    have q : Post Γ (fun c d H => W c d σ H) al1 H1 (.ok (.tup acc) St) (KV' Γ Q) := q
    have hsz : us.size ≤ sizeLine := by
      have z1 := comp_len hf (Nat.zero_le _)
      have z2 := rr.length
      have z3 := rv.length
      simp only [Array.length_toList] at z3
      omega
    show wpAny _ X.A.in1.in1 (load s5.heap.objs.size >>= _) _ _ s'
    refine wpAny_bind (wpAny_load hS ?_)
    refine wpAny_pure ?_
    show wpAny _ _ (Builtin.Tuple.tupleExact us.toList.toArray >>= fun v => ret v) _ _ _
    unfold Builtin.Tuple.tupleExact
    refine wpAny_bind (wpAny_newObj_type ?_ (by show us.toList.toArray.size ≤ sizeLine; simp only [Array.toArray_toList]; exact hsz))
    refine wpAny_pure ?_
    have hfr : H' s'.heap.objs.size = none := I'.hok.fresh (Nat.le_refl _)
    refine ⟨⟨_, Heap.get?_push_size _ rfl, rfl⟩, .ref s'.heap.objs.size, upd H' s'.heap.objs.size (.tup vs), I'.laid (t' := s'.toks) (fun b u e => Heap.get?_push_of_some _ e) (Nat.le_refl _) ?_, rfl, q al' _ (x.trans (.tup hfr)) (w'.tup hfr) _ (.tup (.of upd_same) (rr.mono (fun _ _ h => sqT_upd hfr h) (List.prefix_refl _)))⟩
    exact ⟨by have := rv.length; simp only [Array.length_toList] at this; omega, us.toList, rv, ⟨_, Heap.get?_push_size _ rfl, rfl, _, rfl⟩⟩
  · exact ⟨h₁.1, PySem.F.args_object_init_2 obj _, object_init_meets PySem.F.called_tuple.init.lookup PySem.F.called_tuple.made (by decide) X.prog X.w X.A.in1 _ s₁ ⟨h₁.1, rfl, h₁.2⟩⟩
end
end Mi
set_option autoImplicit true
set_option Elab.async false
set_option linter.all false
set_option maxRecDepth 100000
set_option maxHeartbeats 4000000
/-! MiG6: sorted of a generator expression. -/
namespace Mi
open PySem PySem.Spec PyProof.Rows L2 GenW
section
variable {X : Cx} {Γ : Gam} {Φ : Orc} {W : WX} {pos : Pos} {tg : Expr}
/-- all that a generator gives, in a new list -/
theorem collect_gen {pins : List (Addr × Obj)} {σ : L2.St} {el iter : Expr} {tests : List Expr} {scope : Scope} {gpos : Pos} {ns : List Str} {caps : List Nat} {al1 : List Addr} {S1 : Store} {H1 : Hp} {J : It} {a : Addr} {s5 : Shared} {ρ : Env} {g : Tg} {ifs elt : E} {its : Items}
    (gx : G Γ Φ X W 1) (ok : GenOk X.N X.env.scope scope ns caps) (hgs : ∀ j ∈ tgS g, j < ns.length) (gp : GParts Γ Φ X el tg tests ns caps scope g ifs elt)
    (m : Made Γ X pins σ el tg iter tests scope gpos ns caps al1 S1 H1 J a s5) (w1 : WI Γ.K Γ.T al1 S1 H1) (r1 : RE Γ.K al1 H1 ρ σ) (hJ : Iw Γ al1 H1 J its)
    (B : Around) (hBh : B.handled = none) (hBf : B.frames = some X.stack) (hBd : B.depth < recursionLimit) (hBr : ∀ (cenv : PySem.Env) k, Room (k + 8) X.A → Room k (B.in1.in1.deeper cenv))
    (hnb : comp its.1 (stepOf Φ (gρ ρ ns.length caps) g ifs elt) its.2 [] S1 ≠ .bad) {R : Result → Shared → Prop}
    (fin : ∀ acc vs us c St al' H' s', comp its.1 (stepOf Φ (gρ ρ ns.length caps) g ifs elt) its.2 [] S1 = .ok acc St → Ext al1 H1 al' H' → WI Γ.K Γ.T al' St H' → Inv X pins σ H' s' → RVs Γ.K al' H' acc vs → Vals vs us.toList → s'.heap.get? s5.heap.objs.size = some (lstObj us c) → R (.ok (.ret (.ref s5.heap.objs.size))) s') :
    codeAny (model X.prog X.w) B (.builtin "proto.collect" ⟨[.ref a], []⟩) R s5 := by
  generalize hst : stepOf Φ (gρ ρ ns.length caps) g ifs elt = step at hnb fin
  obtain ⟨gg, hgen⟩ : ∃ gg, s5.heap.IsGen a gg := let ⟨_, _, _, _, _, _, _, _, _, _, _, _, _, _, _, _, _, z, _⟩ := m.run; ⟨_, z⟩
  have ha5 : (show Nat from a) < s5.heap.objs.size := let ⟨o, _, _, ho, _⟩ := hgen; Heap.lt_size ho
  refine codeAny_builtin PySem.F.entry_proto_collect ?_
  rw [Around.under_plainId PySem.F.plain_proto_collect _]
  refine wpAny_bind (m := newList []) (wpAny_newObj_type ?_ (by show 0 ≤ sizeLine; decide))
  refine wpAny_pure ⟨plainId_quiet PySem.F.plain_list_iadd _, codeAny_builtin PySem.F.entry_list_iadd ?_⟩
  rw [Around.under_plainId PySem.F.plain_list_iadd _]
  have k1 : ∀ b o, s5.heap.get? b = some o → (s5.heap.push { cls := .type "list", data := .seq ([] : List Value).toArray }).get? b = some o := fun b o e => Heap.get?_push_of_some _ e
  show wpAny _ B.in1 (Builtin.List.listExtendWith (.ref s5.heap.objs.size) (.ref a) (.ref s5.heap.objs.size)) _ _ _
  unfold Builtin.List.listExtendWith
  have gty : ∀ {h : Heap}, (∀ b o, s5.heap.get? b = some o → h.get? b = some o) → h.IsGen a gg := fun {h} q => hgen.keeps q
  refine wpAny_bind (wpAny_typeOf (Heap.IsGen.typeIs (s := { s5 with heap := _ }) (gty k1)) ?_)
  have hne : s5.heap.objs.size ≠ a := fun z => absurd ha5 (by rw [← z]; exact Nat.lt_irrefl _)
  have h1 : Builtin.List.listSameRef (.ref s5.heap.objs.size) (.ref a) = false := by simp [Builtin.List.listSameRef, hne]
  have h2 : (Value.type "generator" == Value.type "list") = false := by decide
  have h3 : (Value.type "generator" == Value.type "tuple") = false := by decide
  simp only [h1, h2, h3, Bool.or_false, Bool.false_eq_true, if_false]
  refine wpAny_bind (wpAny_pyIter_gen (s := { s5 with heap := _ }) (gty k1) ?_)
  refine wpAny_bind (wpAny_holding ?_)
  unfold Builtin.List.listLengthHint
  refine wpAny_bind (wpAny_specialOf (Heap.IsGen.typeIs (s := { s5 with heap := _ }) (gty k1)) PySem.F.gen_no_len ?_)
  show wpAny _ B.in1 (specialOf (Value.ref a) (Str.ofString "__length_hint__") >>= _) _ _ _
  refine wpAny_bind (wpAny_specialOf (Heap.IsGen.typeIs (s := { s5 with heap := _ }) (gty k1)) PySem.F.gen_no_hint ?_)
  refine wpAny_pure ?_
  show wpAny _ B.in1 (rule "list.extend.makes-room" >>= fun _ => Builtin.List.listTouch (.ref s5.heap.objs.size) >>= fun _ =>
    again (.builtin "list.extend.loop" ⟨[.ref s5.heap.objs.size, .ref a, .ref s5.heap.objs.size], []⟩)) _ _ _
  refine wpAny_bind (wpAny_rule ?_)
  have hS₁ : (s5.heap.push { cls := .type "list", data := .seq ([] : List Value).toArray }).get? s5.heap.objs.size = some { cls := .type "list", data := .seq ([] : List Value).toArray } := Heap.get?_push_size _ rfl
  refine wpAny_bind ?_
  show wpAny _ B.in1 (updateSeq s5.heap.objs.size (·.push .none) >>= fun _ => updateSeq s5.heap.objs.size (·.pop)) _ _ _
  refine wpAny_bind (wpAny_updateSeq hS₁ rfl ?_)
  have hS₂ := Heap.get?_update_self (Obj.mapSeq (·.push Value.none)) hS₁ rfl
  refine wpAny_updateSeq (hz := by seq_fits) hS₂ rfl ?_
  have hS₃ := Heap.get?_update_self (Obj.mapSeq (·.pop)) hS₂ rfl
  have k3 : ∀ b o, s5.heap.get? b = some o → (((s5.heap.push { cls := .type "list", data := .seq ([] : List Value).toArray }).update s5.heap.objs.size (Obj.mapSeq (·.push Value.none))).update s5.heap.objs.size (Obj.mapSeq (·.pop))).get? b = some o := fun b o e => by
    have hb : s5.heap.objs.size ≠ b := fun z => absurd (Heap.lt_size e) (by rw [← z]; exact Nat.lt_irrefl _)
    exact (Heap.get?_update_other _ _ hb).trans ((Heap.get?_update_other _ _ hb).trans (k1 b o e))
  generalize h6 : ((s5.heap.push { cls := .type "list", data := .seq ([] : List Value).toArray }).update s5.heap.objs.size (Obj.mapSeq (·.push Value.none))).update s5.heap.objs.size (Obj.mapSeq (·.pop)) = hp6 at hS₃ k3
  obtain ⟨c6, hS6⟩ : ∃ c, hp6.get? s5.heap.objs.size = some (lstObj #[] c) := ⟨_, hS₃⟩
  obtain ⟨P, n, g', oa, e1, e2, e3, e4, e5, e6, e7, e8, e9, okP, hpn, kpt, gat, back⟩ := made_at gx ok hgs gp m w1 r1 hJ B.in1 hBh hBf (fun cenv k hr => hBr cenv k hr) [s5.heap.objs.size]
    (fun acc xs S => comp its.1 step its.2 [] S1 = comp its.1 step xs acc S)
    (fun acc y xs S => acc.length < sizeLine ∧ comp its.1 step its.2 [] S1 = comp its.1 step xs (acc ++ [y]) S)
    (fun acc S => comp its.1 step its.2 [] S1 = .ok acc S) (fun vs h => ∃ us c, h.get? s5.heap.objs.size = some (lstObj us c) ∧ Vals vs us.toList) { s5 with heap := hp6 }
    (fun b hb => by rw [List.mem_singleton.mp hb]; exact ⟨Nat.le_refl _, _, hS6, fun v z => by cases z⟩) k3 rfl rfl
    (fun vs h h' e ⟨us, c, z, rr⟩ => ⟨us, c, (e _ (List.mem_singleton.mpr rfl)).trans z, rr⟩) ⟨#[], c6, hS6, .nil⟩ rfl
    (fun acc S e => by
      obtain ⟨h1, h2⟩ := comp_nil (g := its.1) (step := step) (acc := acc) (S := S) (by rw [← e]; exact hnb)
      exact ⟨h1, e.trans h2⟩)
    (fun acc x xs S e => by
      obtain ⟨h1, h2⟩ := comp_cons (g := its.1) (step := step) (x := x) (xs := xs) (acc := acc) (S := S) (by rw [← e]; exact hnb)
      refine ⟨h1, ?_⟩
      rw [hst]
      rcases h2 with ⟨y, S', z1, z2, z3⟩ | ⟨S', z1, z2⟩
      · exact .inl ⟨y, S', z1, z2, e.trans z3⟩
      · exact .inr ⟨S', z1, e.trans z2⟩)
  rw [← e2, ← e3]
  refine wpAny_pure ⟨plainId_quiet PySem.F.plain_extend_loop _, codeAny_fill_G (A := B) (S := s5.heap.objs.size) okP hpn hBh hBd e4 (fun vs h => by rw [e8]) kpt
    (fun acc y xs S hc => by rw [e6] at hc; rw [e5]; exact hc) (fun acc vs us c St al' H' s' hf h rr rv hS => ?_) n _ gat⟩
  rw [e7] at hf
  rw [e1] at rr
  obtain ⟨x, w', I'⟩ := back al' St H' s' h
  exact fin acc vs us c St al' H' s' hf x w' I' rr rv hS
theorem room3 {A : Around} {k : Nat} (r : Room (k + 8) A) (cenv : PySem.Env) : Room k (A.in1.in1.in1.deeper cenv) := ((((r.mono (by omega : k + 1 + 1 + 1 + 1 ≤ k + 8)).in1).in1).in1).deeper cenv
mutual
/-- what reads off the heap -/
theorem reads_of {pins : List (Addr × Obj)} {σ : L2.St} {H : Hp} {s : Shared} {al : List Addr} (I : Inv X pins σ H s) (hK : X.K = Γ.K) : ∀ (d : D) (v : V) (u : Value), PySem.W.alike (py d) (py d) = true → RV Γ.K al H d v → RelV v u → Reads s.heap u (py d) []
  | .non, _, _, _, .non, ru => by cases ru; exact .none
  | .bl b, _, _, _, .bl _, ru => by cases ru; exact .bool b
  | .int i, _, _, _, .int _, ru => by obtain ⟨t, rfl⟩ := ru; exact .int i t
  | .str x, _, _, _, .str _, ru => by obtain ⟨t, rfl⟩ := ru; exact .str x t
  | .tup xs, _, _, ha, .tup h1 r1, ru => by
    cases ru
    obtain ⟨its, rv, ⟨o, e, hc, n, hd⟩, _⟩ := I.tuple (by rw [hK]; exact h1)
    exact .tuple e hc hd (by simpa using reads_all I hK xs _ its (by simpa [py, PySem.W.alike] using ha) r1 rv)
  | .ref _, _, _, ha, _, _ => by simp [py, PySem.W.alike] at ha
theorem reads_all {pins : List (Addr × Obj)} {σ : L2.St} {H : Hp} {s : Shared} {al : List Addr} (I : Inv X pins σ H s) (hK : X.K = Γ.K) : ∀ (ds : List D) (vs : List V) (us : List Value), PySem.W.alikeAll (pys ds) (pys ds) = true → RVs Γ.K al H ds vs → Vals vs us → ReadsAll s.heap us (pys ds) []
  | [], _, _, _, .nil, .nil => .nil
  | d :: ds, _, _, ha, .cons q t, .cons qu tu => by
    have ha : PySem.W.alikeAll (py d :: pys ds) (py d :: pys ds) = true := ha
    obtain ⟨h1, h2⟩ := PySem.W.alike_all_cons ha
    exact .cons (reads_of I hK d _ _ h1 q qu) (reads_all I hK ds _ _ h2 t tu)
end
theorem each_of {K : PySem.W.Frag} {al : List Addr} {H : Hp} : ∀ {ds : List D} {vs : List V} {us : List Value}, RVs K al H ds vs → Vals vs us → PySem.W.EachIs (fun (u : Value) (d : D) => ∃ v, RV K al H d v ∧ RelV v u) us ds
  | _, _, _, .nil, .nil => .nil
  | _, _, _, .cons q t, .cons qu tu => .cons ⟨_, q, qu⟩ (each_of t tu)
theorem s_gsorted {el iter : Expr} {tests : List Expr} {scope : Scope} {gpos p : Pos} {ns : List Str} {caps : List Nat} {g : Tg} {it ifs elt : E}
    (gx : G Γ Φ X W 1) (hgl : glB X.env.scope "sorted" = true) (ok : GenOk X.N X.env.scope scope ns caps) (hgs : ∀ j ∈ tgS g, j < ns.length) (gp : GParts Γ Φ X el tg tests ns caps scope g ifs elt)
    (hi : PI X tg iter (TIt Γ Φ W it)) (hs : ∀ v, genFold iter X.env v = pure v) :
    PE X (.Call (.Name "sorted" p) [.GeneratorExp el [⟨tg, iter, tests, 0⟩] scope gpos] [] pos) (T Γ Φ W (.gen .sorted ns.length caps g it ifs elt)) := by
  refine ⟨fun pins s σ H Q I ⟨al, ρ, S, w, r, h⟩ => ?_⟩
  have hm : X.mg "sorted" = none := gx.blt _ (by decide +kernel)
  rw [ev_gen] at h
  have hbo : bootBuiltins "sorted" = some (.builtin "sorted") := by decide +kernel
  refine wpAny_Call_Name_kw (ld_blt I (glOf hgl) hm hbo ?_ (by decide) (by decide))
  refine PyProof.Rows.callWith_builtin1 ?_ (star_ok rfl) (by rfl)
  rw [star_ok (by rfl : starB (.GeneratorExp el [⟨tg, iter, tests, 0⟩] scope gpos) = false)]
  show wpAny _ _ (spliced ((false, eval (.GeneratorExp el [⟨tg, iter, tests, 0⟩] scope gpos) X.env) :: backTo pos (starEach [] X.env))) _ _ s
  refine Calls.spliced_cons (gen_arg gx ok hi hs I w r h fun al1 S1 H1 J its a s5 w1 r1 hJ q m => ?_)
  refine Calls.spliced_nil ?_
  have q : Post Γ (fun c d H => W c d σ H) al1 H1 ((comp its.1 (stepOf Φ (gρ ρ ns.length caps) g ifs elt) its.2 [] S1).bind fun acc S => sortR acc S) (KV' Γ Q) := q
  have hnb : comp its.1 (stepOf Φ (gρ ρ ns.length caps) g ifs elt) its.2 [] S1 ≠ .bad := fun z => by rw [z] at q; exact q
  refine Calls.call_function_entry kind_sorted plain_sorted entry_sorted (args_sorted1 _) ?_
  unfold Builtin.«sorted»
  refine wpAny_bind (m := checkCount "sorted" 1 1 _) (wpAny_pure ?_)
  refine wpAny_bind ?_
  unfold collect
  refine wpAny_bind (wpAny_runValue (collect_gen gx ok hgs gp m w1 r1 hJ X.A.in1 gx.rm.hd (by exact I.ok.frames) (by have := gx.rm.dp; show X.A.depth < _; omega) (fun cenv k hr => room3 hr cenv) hnb fun acc vs us c St al' H' s' hf x w' I' rr rv hS => ?_))
  rw [hf] at q
  have q : Post Γ (fun c d H => W c d σ H) al1 H1 (sortR acc St) (KV' Γ Q) := q
  unfold sortR at q
  split at q
  · rename_i hc
    obtain ⟨hal, hk, hL, hdp⟩ := hc
    refine wpAny_bind (wpAny_load hS ?_)
    refine wpAny_pure ?_
    have hlen : us.toList.length = acc.length := by rw [← rv.length, ← rr.length]
    refine wpAny_bind (wpAny_newList ?_ (by rw [hlen]; exact hL))
    have hS2 : (s'.heap.push (seqObj "list" us.toList.toArray 0)).get? s'.heap.objs.size = some (seqObj "list" us.toList.toArray 0) := Heap.get?_push_size _ rfl
    have I2 : Inv X pins σ H' { s' with heap := s'.heap.push (seqObj "list" us.toList.toArray 0) } := I'.kept (t' := s'.toks) fun b o e => Heap.get?_push_of_some _ e
    refine wpAny_bind (wpAny_holding ?_)
    have self : ∀ d ∈ acc, PySem.W.alike (py d) (py d) = true := fun d hd => hal _ (List.mem_map_of_mem hd) _ (List.mem_map_of_mem hd)
    obtain ⟨hh, ehh⟩ : ∃ hh : Heap, hh = s'.heap.push (seqObj "list" us.toList.toArray 0) := ⟨_, rfl⟩
    rw [← ehh] at hS2 I2 ⊢
    have each2 : ∀ {ds : List D} {us : List Value}, PySem.W.EachIs (fun (u : Value) (d : D) => ∃ v, RV Γ.K al' H' d v ∧ RelV v u) us ds → (∀ d ∈ ds, d ∈ acc) → PySem.W.EachIs (fun u d => ∃ as, Reads hh u (py d) as ∧ s'.heap.objs.size ∉ as) us ds := fun {ds us} r => by
      induction r with
      | nil => exact fun _ => .nil
      | cons q t ih =>
        intro hm
        obtain ⟨v, q1, q2⟩ := q
        exact .cons ⟨[], reads_of I2 gx.K _ _ _ (self _ (hm _ List.mem_cons_self)) q1 q2, by simp⟩ (ih fun d hd => hm d (List.mem_cons_of_mem _ hd))
    have back : ∀ {ds : List D} {us : List Value}, PySem.W.EachIs (fun (u : Value) (d : D) => ∃ v, RV Γ.K al' H' d v ∧ RelV v u) us ds → ∃ vs, RVs Γ.K al' H' ds vs ∧ Vals vs us := fun {ds us} r => by
      induction r with
      | nil => exact ⟨[], .nil, .nil⟩
      | cons q t ih =>
        obtain ⟨v, q1, q2⟩ := q
        obtain ⟨vs, q3, q4⟩ := ih
        exact ⟨v :: vs, .cons q1 q3, .cons q2 q4⟩
    have e0 := each_of rr rv
    refine PySem.W.list_sort_data (s := { s' with heap := hh }) (bs := acc) (enc := py) hS2 e0 (each2 e0 fun _ h => h) hal hk hL (fun d hd => ?_) fun out ho eo => ?_
    · have h1 := hdp d hd
      have h2 := gx.un
      show X.A.units + 1 + 1 + _ < _
      omega
    · obtain ⟨ws, q1, q2⟩ := back eo
      have hfr : H' s'.heap.objs.size = none := I'.hok.fresh (Nat.le_refl _)
      obtain ⟨ep, hat⟩ := PyProof.Rows.sortedHeap_at hS2 (out := out.toArray)
      have hlt : ∀ b o, s'.heap.get? b = some o → (PyProof.Rows.sortedHeap hh s'.heap.objs.size us.toList out.toArray).get? b = some o := fun b o e => by
        have h1 := Heap.lt_size e
        rw [PyProof.Rows.sortedHeap_old (Nat.ne_of_lt h1) (by rw [ehh, Heap.size_push]; exact Nat.lt_succ_of_lt h1), ehh]
        exact Heap.get?_push_of_some _ e
      refine wpAny_pure ⟨_, rfl, .ref s'.heap.objs.size, upd H' s'.heap.objs.size (.lst ws), I'.laid (t' := s'.toks) hlt (Nat.le_refl _) ⟨?_, out, ep, q2, hat⟩, rfl, (q.move x).lst w' q1 hfr⟩
      rw [q2.length, ho]; exact hL
  · exact q.elim
end
end Mi
set_option autoImplicit true
set_option Elab.async false
set_option linter.all false
set_option maxRecDepth 100000
set_option maxHeartbeats 4000000
/-! MiC1: the length of a set comprehension over ints and texts. -/
namespace Mi
open PySem PySem.Spec PyProof.Rows L2
theorem nub_snoc {α : Type} [DecidableEq α] (l : List α) (y : α) : nub (l ++ [y]) = if y ∈ nub l then nub l else nub l ++ [y] := by
  unfold nub
  rw [List.foldl_append]
  rfl
theorem mem_nub {α : Type} [DecidableEq α] : ∀ (n : Nat) (l : List α), l.length = n → ∀ y, y ∈ nub l ↔ y ∈ l
  | 0, [], _, y => Iff.rfl
  | n + 1, l, h, y => by
    rcases List.eq_nil_or_concat l with rfl | ⟨l', x, rfl⟩
    · cases h
    · rw [List.concat_eq_append] at h ⊢
      have ih := mem_nub n l' (by simpa using h)
      rw [nub_snoc]
      by_cases hx : x ∈ nub l'
      · rw [if_pos hx, ih y, List.mem_append, List.mem_singleton]
        exact ⟨.inl, fun z => z.elim id fun e => by rw [e]; exact (ih x).mp hx⟩
      · rw [if_neg hx, List.mem_append, List.mem_append, ih y]
theorem dKeys_snoc {d : D} {k : L2.Key} : ∀ {ds : List D} {ks : List L2.Key}, dKeys ds = some ks → dKey d = some k → dKeys (ds ++ [d]) = some (ks ++ [k])
  | [], ks, h, hk => by cases h; show (match dKey d, dKeys [] with | some k, some ks => some (k :: ks) | _, _ => none) = _; rw [hk]; rfl
  | e :: ds, ks, h, hk => by
    have h : (match dKey e, dKeys ds with | some k, some ks => some (k :: ks) | _, _ => none) = some ks := h
    show (match dKey e, dKeys (ds ++ [d]) with | some k, some ks => some (k :: ks) | _, _ => none) = _
    cases h1 : dKey e with
    | none => rw [h1] at h; cases h
    | some k1 =>
      cases h2 : dKeys ds with
      | none => rw [h1, h2] at h; cases h
      | some ks1 =>
        rw [h1, h2] at h
        cases h
        rw [dKeys_snoc h2 hk]
        rfl
/-- keys of a whole are keys of a part -/
theorem dKeys_part : ∀ {ds es : List D} {ks : List L2.Key}, dKeys (ds ++ es) = some ks → ∃ k1 k2, dKeys ds = some k1 ∧ dKeys es = some k2 ∧ ks = k1 ++ k2
  | [], es, ks, h => ⟨[], ks, rfl, h, rfl⟩
  | d :: ds, es, ks, h => by
    have h : (match dKey d, dKeys (ds ++ es) with | some k, some ks => some (k :: ks) | _, _ => none) = some ks := h
    cases h1 : dKey d with
    | none => rw [h1] at h; cases h
    | some k1 =>
      cases h2 : dKeys (ds ++ es) with
      | none => rw [h1, h2] at h; cases h
      | some ks1 =>
        rw [h1, h2] at h
        cases h
        obtain ⟨a, b, e1, e2, rfl⟩ := dKeys_part h2
        refine ⟨k1 :: a, b, ?_, e2, rfl⟩
        show (match dKey d, dKeys ds with | some k, some ks => some (k :: ks) | _, _ => none) = _
        rw [h1, e1]
theorem dKey_kV {K : PySem.W.Frag} {al : List Addr} {H : Hp} {d : D} {v : V} {k : L2.Key} (r : RV K al H d v) (h : dKey d = some k) : v = kV k := by
  cases d <;> first | cases h | skip
  · cases r; rfl
  · cases r; rfl
/-- what a comprehension adds stands behind what it had -/
theorem comp_pre {g : Option (Nat × List D)} {step : D → M (Option D)} : ∀ {xs acc acc' : List D} {S S' : Store}, comp g step xs acc S = .ok acc' S' → ∃ more, acc' = acc ++ more
  | [], acc, acc', S, S', h => by
    obtain ⟨_, e⟩ := comp_nil (g := g) (step := step) (acc := acc) (S := S) (by rw [h]; exact fun z => nomatch z)
    rw [e] at h
    cases h
    exact ⟨[], by simp⟩
  | x :: xs, acc, acc', S, S', h => by
    obtain ⟨_, e⟩ := comp_cons (g := g) (step := step) (x := x) (xs := xs) (acc := acc) (S := S) (by rw [h]; exact fun z => nomatch z)
    rcases e with ⟨y, S2, _, _, e⟩ | ⟨S2, _, e⟩
    · obtain ⟨m, rfl⟩ := comp_pre (e.symm.trans h)
      exact ⟨y :: m, by simp⟩
    · exact comp_pre (e.symm.trans h)
section
variable {X : Cx} {Γ : Gam} {Φ : Orc} {W : WX} {pos : Pos} {tg : Expr} {lv : Nat}
/-- the set in the making -/
abbrev SetOfKs (X : Cx) (a : Addr) (ks : List L2.Key) : HO := SetK X.prog X.w a (fun j => ks.any fun x => decide (x = j)) (nub ks).length
theorem add_key {pins : List (Addr × Obj)} {σ : L2.St} {H : Hp} {s : Shared} {a : Addr} {ks : List L2.Key} {k : L2.Key} {u : Value} {Q : Value → Shared → Prop} (I : Inv X pins σ H s) (hD : H a = some (SetOfKs X a ks)) (ru : RelV (kV k) u) (room : ks.length + 1 < 1001)
    (h : ∀ v s', Inv X pins σ (upd H a (SetOfKs X a (ks ++ [k]))) s' → Q v s') : wpAny (model X.prog X.w) X.A (call (.builtin "set.add") [.ref a, u]) Q X.xe s := by
  have hl : (nub ks).length ≤ ks.length := by
    have key : ∀ (n : Nat) (l : List L2.Key), l.length = n → (nub l).length ≤ l.length := fun n => by
      induction n with
      | zero => intro l e; rw [List.length_eq_zero_iff.mp e]; exact Nat.le_refl _
      | succ n ih =>
        intro l e
        rcases List.eq_nil_or_concat l with rfl | ⟨l', x, rfl⟩
        · exact Nat.le_refl _
        · rw [List.concat_eq_append] at e ⊢
          have := ih l' (by simpa using e)
          rw [nub_snoc]
          split <;> simp <;> omega
    exact key _ ks rfl
  have e1 : SetK X.prog X.w a (fun j => (ks.any fun x => decide (x = j)) || decide (j = k)) (if (ks.any fun x => decide (x = k)) = true then (nub ks).length else (nub ks).length + 1) = SetOfKs X a (ks ++ [k]) := by
    have f1 : (fun j => (ks.any fun x => decide (x = j)) || decide (j = k)) = fun j => (ks ++ [k]).any fun x => decide (x = j) := by
      funext j
      have e : decide (j = k) = decide (k = j) := by
        by_cases z : j = k
        · subst z; rfl
        · rw [decide_eq_false z, decide_eq_false (fun y => z y.symm)]
      rw [List.any_append, e]
      simp
    have f2 : (if (ks.any fun x => decide (x = k)) = true then (nub ks).length else (nub ks).length + 1) = (nub (ks ++ [k])).length := by
      rw [nub_snoc]
      have := mem_nub _ ks rfl k
      have any : (ks.any fun x => decide (x = k)) = true ↔ k ∈ ks := by
        rw [List.any_eq_true]
        exact ⟨fun ⟨x, hx, e⟩ => by rw [← of_decide_eq_true e]; exact hx, fun hx => ⟨k, hx, decide_eq_true rfl⟩⟩
      by_cases hk : (ks.any fun x => decide (x = k)) = true
      · rw [if_pos hk, if_pos (this.mpr (any.mp hk))]
      · rw [if_neg hk, if_neg (fun z => hk (any.mpr (this.mp z)))]; simp
    show SetK _ _ _ _ _ = SetK _ _ _ _ _
    rw [f1, f2]
  refine wpAny_mono (mt_saddK pins s σ H (.ref a) [kV k] (.ref a) [u] (fun _ H' => H' = upd H a (SetOfKs X a (ks ++ [k]))) I rfl (.cons ru .nil) ⟨a, k, _, _, rfl, rfl, hD, by simp only [show scanBound = 4096 from rfl]; omega, e1 ▸ rfl⟩) (fun v s' ⟨z, H', I', _, e⟩ => by subst e; exact h v s' I') fun _ _ z => z
theorem len_keys {pins : List (Addr × Obj)} {σ : L2.St} {H : Hp} {s : Shared} {a : Addr} {ks : List L2.Key} {Q : Value → Shared → Prop} (I : Inv X pins σ H s) (hD : H a = some (SetOfKs X a ks)) (h : ∀ (n : Tok) (t : Nat), Q (.int (nub ks).length n) { s with toks := t }) :
    wpAny (model X.prog X.w) X.A (call (.builtin "len") [.ref a]) Q X.xe s := by
  obtain ⟨o, es, ep, t, ho, hex, hd, _, _, hb, hf, hn⟩ := setK_get I hD
  have hb : es.size < 4096 := hb
  have e : ((es.size : Nat) : Int) = ((nub ks).length : Int) := by rw [hn]
  exact call_len_set ho hex hd hf (by omega) (by rw [e]; exact h _ _)
theorem comp_ok {g : Option (Nat × List D)} {step : D → M (Option D)} : ∀ {xs acc : List D} {S : Store}, comp g step xs acc S ≠ .bad → ∃ acc' S', comp g step xs acc S = .ok acc' S'
  | [], acc, S, h => ⟨acc, S, (comp_nil h).2⟩
  | x :: xs, acc, S, h => by
    obtain ⟨_, e⟩ := comp_cons h
    rcases e with ⟨y, S2, _, _, e⟩ | ⟨S2, _, e⟩
    · rw [e] at h ⊢; exact comp_ok h
    · rw [e] at h ⊢; exact comp_ok h
/-- an object aside the store changes -/
theorem WI.side {K : PySem.W.Frag} {Ta al : List Addr} {S : Store} {H : Hp} (w : WI K Ta al S H) {D : Addr} {o o' : HO} (hD : D ∉ al) (e : H D = some o) (ho : ∃ f, o = .ext f) : WI K Ta al S (upd H D o') ∧ ∀ a zs, SqT K H a zs → SqT K (upd H D o') a zs := by
  obtain ⟨f, rfl⟩ := ho
  have hT : ∀ a zs, SqT K H a zs → SqT K (upd H D o') a zs := fun a zs z => by
    rcases z with (z | ⟨u, z⟩) | z
    · exact .inl (.inl (by rw [upd_ne (ne_of z e (by intro q; cases q))]; exact z))
    · exact .inl (.inr ⟨u, by rw [upd_ne (ne_of z e (by intro q; cases q))]; exact z⟩)
    · exact .inr z
  exact ⟨⟨w.len, w.nd, fun n ob a h1 h2 => (w.ob n ob a h1 h2).mono (upd_ne fun z => hD (by rw [← z]; exact List.mem_of_getElem? h2)) hT (List.prefix_refl _), fun p hp => let ⟨ps, e2, t⟩ := w.tab p hp; ⟨ps, by rw [upd_ne (ne_of e2 e (by intro q; cases q))]; exact e2, t⟩⟩, hT⟩
theorem wipe_wipe (σ : L2.St) (vs : List Nat) : L2.wipe (L2.wipe σ vs) vs = L2.wipe σ vs := by
  apply List.ext_getElem?
  intro i
  rw [wipe_get, wipe_length, wipe_get]
  split <;> rfl
theorem ev_lenSet {own : List Nat} {g : Tg} {it ifs elt : E} {ρ : Env} {S : Store} : ev Φ (.lenSet own g it ifs elt) ρ S = (evIt Φ it ρ S).bind fun its S =>
    (comp its.1 (stepOf Φ (wipeE ρ own) g ifs elt) its.2 [] S).bind fun acc S => match dKeys acc with
      | some ks => if ks.length < 1000 then .ok (.int (nub ks).length) S else .bad
      | none => .bad := rfl
theorem s_lenSet {own : List Nat} {g : Tg} {it ifs elt : E} {el iter : Expr} {tests : List Expr} {scope : Scope} {sp p : Pos} (gx : G Γ Φ X W lv) (hgl : glB X.env.scope "len" = true) (hi : PI X tg iter (TIt Γ Φ W it))
    (ok : BlkOk X.N X.env.scope scope (own.map fun i => (X.N.getD i "", i))) (hgs : ∀ j ∈ tgS g, j ∈ own)
    (hg : ∀ (s : Shared) (H : Hp) (C : Addr) (cl : List (Str × Addr)) (fp : List Addr), PG (X.blk s H scope (compEnvC scope cl C X.env) fp) tg (TGm Γ g))
    (ht : ∀ (s : Shared) (H : Hp) (C : Addr) (cl : List (Str × Addr)) (fp : List Addr), PTs (X.blk s H scope (compEnvC scope cl C X.env) fp) tests (TTAll Γ Φ WF ifs))
    (he : ∀ (s : Shared) (H : Hp) (C : Addr) (cl : List (Str × Addr)) (fp : List Addr), PE (X.blk s H scope (compEnvC scope cl C X.env) fp) el (T Γ Φ WF elt)) (hs : ∀ x, foldedSetIterable iter X.env x = pure x) :
    PE X (.Call (.Name "len" p) [.SetComp el [⟨tg, iter, tests, 0⟩] scope sp] [] pos) (T Γ Φ W (.lenSet own g it ifs elt)) := by
  refine ⟨fun pins s σ H Q I ⟨al, ρ, S, w, r, h⟩ => ?_⟩
  rw [ev_lenSet] at h
  generalize hst : stepOf Φ (wipeE ρ own) g ifs elt = step at h
  have hm : X.mg "len" = none := gx.blt _ (by decide +kernel)
  refine wpAny_Call_Name_kw (ld_blt I (glOf hgl) hm boot_len ?_ (by decide) (by decide))
  refine PyProof.Rows.callWith_builtin1 ?_ (star_ok rfl) (by rfl)
  rw [star_ok (by rfl : starB (.SetComp el [⟨tg, iter, tests, 0⟩] scope sp) = false)]
  refine Calls.spliced_cons ?_
  show wpAny _ _ (eval (.SetComp el [⟨tg, iter, tests, 0⟩] scope sp) X.env) _ _ s
  rw [PpSet.eval_SetComp]
  have cells : ∀ y ∈ scope.names, y.2 = .free → ∃ c, X.env.cells.lookup y.1 = some c := fun y hy e => (ok.free y hy e).elim (fun k => I.ok.has _ (.inl k)) fun k => I.ok.has _ (.inr k)
  have first := hi.run pins s σ H (fun J H1 => ∃ al1 S1 its, WI Γ.K Γ.T al1 S1 H1 ∧ RE Γ.K al1 H1 ρ σ ∧ Iw Γ al1 H1 J its ∧ Post Γ (fun c d H => W c d σ H) al1 H1 ((comp its.1 step its.2 [] S1).bind fun acc S => match dKeys acc with
      | some ks => if ks.length < 1000 then .ok (.int (nub ks).length) S else .bad
      | none => .bad) (KV' Γ Q)) I (TIt_of w r (Post.bind h) fun its al1 S1 H1 J x1 w1 r1 hJ q1 => ⟨al1, S1, its, w1, r1, hJ, q1⟩)
  refine wpAny_comprehension_free (use := none) rfl hs (closure_ok cells) ok.kind (fun y hy e => by rw [ok.uniq y hy, e]) (thn first fun _ _ z => thn z fun itv t0 ⟨ia, fps, tq, J, H1, e0, I1, Tn, u0, fr0, al1, S1, its, w1, r1, hJ, q1⟩ => ?_)
  subst e0
  refine PpSet.newSet_ok (newEnv_comp ?_)
  -- the run's end is known
  have hnb : comp its.1 step its.2 [] S1 ≠ .bad := fun z => by rw [z] at q1; exact q1
  obtain ⟨D, eD⟩ : ∃ D : Addr, D = t0.heap.objs.size := ⟨_, rfl⟩
  have nD : H1 D = none := I1.hok.fresh (Nat.le_of_eq eD.symm)
  obtain ⟨t1, et1⟩ : ∃ t1 : Shared, t1 = { t0 with heap := t0.heap.push { cls := .type "set", dict := none, data := .set #[] 0 (.fresh 0 0 (!X.w.params.followText "set-order")) } } := ⟨_, rfl⟩
  have hp1 : t1.heap = t0.heap.push { cls := .type "set", dict := none, data := .set #[] 0 (.fresh 0 0 (!X.w.params.followText "set-order")) } := by rw [et1]
  have I2 : Inv X pins σ (upd H1 D (SetOfKs X D [])) t1 := by
    subst et1 eD
    exact I1.laid (t' := t0.toks) (fun b o e => Heap.get?_push_of_some _ e) (Nat.le_refl _) (setK_new ⟨_, #[], 0, _, Heap.get?_push_size _ rfl, ⟨rfl, rfl, rfl⟩, rfl, (fun e he => by simp at he), (fun k => by simp), (by decide), (by rfl), rfl⟩)
  have old : ∀ b ∈ fps, b < t0.heap.objs.size := fun b hb => let ⟨o, e, _⟩ := Tn.obj _ _ u0 b hb; Heap.lt_size e
  have fr1 : ∀ b ∈ fps, FpOk X pins (upd H1 D (SetOfKs X D [])) b ∧ b < t1.heap.objs.size := fun b hb => ⟨⟨by rw [upd_ne (by rw [eD]; exact Nat.ne_of_lt (old b hb))]; exact (fr0 b hb).1, (fr0 b hb).2⟩, by rw [hp1, Heap.size_push]; exact Nat.lt_succ_of_lt (old b hb)⟩
  have u1 : tq 0 t1.heap := Tn.keep _ _ _ u0 fun b _ o e => by rw [hp1]; exact Heap.get?_push_of_some _ e
  have I3 := block_start I2 ok gx.nd fr1
  have eo : (own.map fun i => (X.N.getD i "", i)).map (·.2) = own := by simp [List.map_map, Function.comp_def]
  rw [eo] at I3
  have pg := hg t1 (upd H1 D (SetOfKs X D [])) t1.heap.objs.size (cellsFrom (t1.heap.objs.size + 1) scope.names (cloFrom X.env.cells scope.names [])) fps
  have pt := ht t1 (upd H1 D (SetOfKs X D [])) t1.heap.objs.size (cellsFrom (t1.heap.objs.size + 1) scope.names (cloFrom X.env.cells scope.names [])) fps
  have pe := he t1 (upd H1 D (SetOfKs X D [])) t1.heap.objs.size (cellsFrom (t1.heap.objs.size + 1) scope.names (cloFrom X.env.cells scope.names [])) fps
  generalize hce : compEnvC scope (cellsFrom (t1.heap.objs.size + 1) scope.names (cloFrom X.env.cells scope.names [])) t1.heap.objs.size X.env = ce at I3 pg pt pe
  have cL : ce.locals = t1.heap.objs.size := by subst hce; rfl
  generalize hHs : upd H1 D (SetOfKs X D []) = Hs at I2 I3 pg pt pe fr1
  have hHsD : Hs D = some (SetOfKs X D []) := by rw [← hHs]; exact upd_same
  obtain ⟨accF, SF, eF⟩ := comp_ok hnb
  rw [eF] at q1
  have q1 : Post Γ (fun c d H => W c d σ H) al1 H1 (match dKeys accF with
      | some ks => if ks.length < 1000 then .ok (.int (nub ks).length) SF else .bad
      | none => .bad) (KV' Γ Q) := q1
  obtain ⟨ksF, eK, hlF, q1⟩ : ∃ ksF, dKeys accF = some ksF ∧ ksF.length < 1000 ∧ Post Γ (fun c d H => W c d σ H) al1 H1 (.ok (.int (nub ksF).length) SF) (KV' Γ Q) := by
    cases e : dKeys accF with
    | none => rw [e] at q1; exact q1.elim
    | some ks =>
      rw [e] at q1
      by_cases hz : ks.length < 1000
      · refine ⟨ks, rfl, hz, ?_⟩
        have q1 : Post Γ (fun c d H => W c d σ H) al1 H1 (if ks.length < 1000 then .ok (.int (nub ks).length) SF else .bad) (KV' Γ Q) := q1
        rw [if_pos hz] at q1; exact q1
      · have q1 : Post Γ (fun c d H => W c d σ H) al1 H1 (if ks.length < 1000 then .ok (.int (nub ks).length) SF else .bad) (KV' Γ Q) := q1
        rw [if_neg hz] at q1; exact q1.elim
  obtain ⟨QQ, hQQ⟩ : ∃ QQ : Value → Shared → Prop, QQ = fun v s₁ => wpAny (model X.prog X.w) X.A (spliced (backTo pos (starEach [] X.env))) (fun vs s₂ => wpAny (model X.prog X.w) X.A (call (.builtin "len") (v :: vs)) (EP X pins σ Q) X.xe s₂) X.xe s₁ := ⟨_, rfl⟩
  suffices key : codeAny (model X.prog X.w) X.A (.compStart (.SetComp el [⟨tg, iter, tests, 0⟩] scope sp) 0 (.ref ia) (.ref D) ce) (compPost (model X.prog X.w) X.A X.xe none QQ (.ref D) t1.heap.objs.size) { t1 with heap := pushCells (t1.heap.push { cls := .type "dict", data := .dict #[] }) scope.names } by
    subst hce et1 eD hQQ; exact key
  obtain ⟨t2, et2⟩ : ∃ t2 : Shared, t2 = { t1 with heap := pushCells (t1.heap.push { cls := .type "dict", data := .dict #[] }) scope.names } := ⟨_, rfl⟩
  have u2 : tq 0 t2.heap := Tn.keep _ _ _ u1 fun b _ o e => by rw [et2]; exact pushCells_keeps _ _ _ _ (Heap.get?_push_of_some _ e)
  rw [← et2] at I3 ⊢
  have fpk : ∀ {σ' : L2.St} {H' : Hp} {s' : Shared}, Inv (X.blk t1 Hs scope ce fps) [] σ' H' s' → (∀ b ∈ fps, H' b = none) → ∀ b ∈ fps, FpOk (X.blk t1 Hs scope ce fps) [] H' b := fun {σ' H' s'} I' hn b hb =>
    ⟨hn b hb, (I'.ok.exf b hb).1, I'.ok.exfs b hb, .inl hb, fun x c e => (I'.ok.exf b hb).2 x c e, fun p hp => by cases hp⟩
  have loop : codeAny (model X.prog X.w) X.A (.compLoop (.SetComp el [⟨tg, iter, tests, 0⟩] scope sp) 0 (.ref ia) (.ref D) ce) (compPost (model X.prog X.w) X.A X.xe none QQ (.ref D) t1.heap.objs.size) t2 := by
    refine PpSet.compLoopS_any (fun m s' => ∃ i H' al S acc ks, m = its.2.length - i ∧ i ≤ its.2.length ∧ Inv (X.blk t1 Hs scope ce fps) [] (L2.wipe σ own) H' s' ∧ tq i s'.heap ∧ (∀ b ∈ fps, H' b = none) ∧ Ext al1 H1 al H' ∧ WI Γ.K Γ.T al S H' ∧ D ∉ al ∧ H' D = some (SetOfKs X D ks) ∧ dKeys acc = some ks ∧ comp its.1 step (its.2.drop i) acc S = .ok accF SF) ?_ its.2.length
      ⟨0, Hs, al1, S1, [], [], by simp, Nat.zero_le _, I3, u2, fun b hb => (fr1 b hb).1.1, by rw [← hHs]; exact .tup nD, by rw [← hHs]; exact w1.tup nD, fun z => w1.there z nD, hHsD, rfl, by rw [List.drop_zero]; exact eF⟩
    rintro m s5 ⟨i, H5, al5, S5, acc5, ks5, rfl, hi5, I5, u5, n5, x5, w5, nD5, eD5, k5, e5⟩
    have iw := hJ al5 S5 H5 x5 w5
    have hnb5 : comp its.1 step (its.2.drop i) acc5 S5 ≠ .bad := by rw [e5]; exact fun z => nomatch z
    by_cases hlt : i < its.2.length
    · obtain ⟨x, hx⟩ : ∃ x, its.2[i]? = some x := ⟨_, List.getElem?_eq_getElem hlt⟩
      have hd : its.2.drop i = x :: its.2.drop (i + 1) := by
        rw [List.drop_eq_getElem_cons hlt]
        rw [List.getElem?_eq_getElem hlt] at hx
        cases hx; rfl
      rw [hd] at e5 hnb5
      obtain ⟨hstill, hstep⟩ := comp_cons hnb5
      obtain ⟨hgo, _⟩ := iw hstill
      obtain ⟨go, hy⟩ := hgo i x hx
      refine thnF (Tn.item (X.blk t1 Hs scope ce fps) rfl rfl rfl gx.calm i [] s5 _ H5 (fun _ _ => False) I5 (fpk I5 n5) u5 go) fun rr s6 ⟨u, er, z6⟩ => ?_
      subst er
      refine thnF z6 fun _ s7 ⟨v, H7, I7, rv7, y7, u7, n7⟩ => ?_
      obtain ⟨x7, w7, rvx⟩ := hy v H7 y7
      have I7p := I7.pinned (fpk I7 n7) (Tn.obj _ _ u7)
      have eD7 : H7 D = some (SetOfKs X D ks5) := x7.keep D _ eD5 nD5 fun ps z => by cases z
      have nD7 : D ∉ al5 := nD5
      -- what the turn gives
      have hk : Post Γ XF al5 H7 (step x S5) (fun o al' S' H' => (∃ y k, o = some y ∧ dKey y = some k ∧ dKeys (acc5 ++ [y]) = some (ks5 ++ [k]) ∧ ks5.length + 1 < 1001 ∧ comp its.1 step (its.2.drop (i + 1)) (acc5 ++ [y]) S' = .ok accF SF) ∨ (o = none ∧ comp its.1 step (its.2.drop (i + 1)) acc5 S' = .ok accF SF)) := by
        rcases hstep with ⟨y, S', e1, e2, e3⟩ | ⟨S', e1, e3⟩
        · rw [e1]
          rw [e3] at e5
          obtain ⟨more, em⟩ := comp_pre e5
          rw [em] at eK
          obtain ⟨k1, k2, ek1, _, ekF⟩ := dKeys_part eK
          obtain ⟨k3, k4, ek3, ek4, rfl⟩ := dKeys_part ek1
          rw [k5] at ek3; cases ek3
          have ek4 : (match dKey y, dKeys [] with | some k, some ks => some (k :: ks) | _, _ => none) = some k4 := ek4
          cases hky : dKey y with
          | none => rw [hky] at ek4; cases ek4
          | some k =>
            rw [hky] at ek4
            cases ek4
            refine fun al' H' _ _ => .inl ⟨y, k, rfl, hky, ek1, ?_, e5⟩
            have : ksF.length = (ks5 ++ [k] ++ k2).length := by rw [ekF]
            simp at this
            omega
        · rw [e1]
          rw [e3] at e5
          exact fun al' H' _ _ => .inr ⟨rfl, e5⟩
      have rw7 : RE Γ.K al5 H7 (wipeE ρ own) (L2.wipe σ own) := ((r1.ext w1 x5).ext w5 x7).wipe own
      -- the turn's end
      have again : ∀ {s' : Shared} {σ8 : L2.St} {H' : Hp} {al' : List Addr} {S' : Store} {acc' : List Mi.D} {ks' : List L2.Key}, Inv (X.blk t1 Hs scope ce fps) ([] ++ pinsAt fps s7.heap) σ8 H' s' → L2.wipe σ8 own = L2.wipe σ own → Ext al1 H1 al' H' → WI Γ.K Γ.T al' S' H' → D ∉ al' → H' D = some (SetOfKs X D ks') → dKeys acc' = some ks' →
          comp its.1 step (its.2.drop (i + 1)) acc' S' = .ok accF SF → ∃ m, m < its.2.length - i ∧ ∃ i H' al S acc ks, m = its.2.length - i ∧ i ≤ its.2.length ∧ Inv (X.blk t1 Hs scope ce fps) [] (L2.wipe σ own) H' s' ∧ tq i s'.heap ∧ (∀ b ∈ fps, H' b = none) ∧ Ext al1 H1 al H' ∧ WI Γ.K Γ.T al S H' ∧ D ∉ al ∧ H' D = some (SetOfKs X D ks) ∧ dKeys acc = some ks ∧ comp its.1 step (its.2.drop i) acc S = .ok accF SF := fun {s' σ8 H' al' S' acc' ks'} I' ew xe we nDe eDe ke ee => by
        have pin' : ∀ b ∈ fps, ∀ o, s7.heap.get? b = some o → s'.heap.get? b = some o ∧ H' b = none := fun b hb o e => let z := I'.pin (b, o) (List.mem_append_right _ (List.mem_append_right _ (mem_pinsAt hb e))); ⟨z.1, z.2.1⟩
        refine ⟨its.2.length - (i + 1), by omega, i + 1, H', al', S', acc', ks', rfl, hlt, (I'.unpinned (pins := [])).weak (by rw [← ew, wipe_length]) (fun j v e => by rw [← ew] at e; exact (wipe_some e).1), Tn.keep _ _ _ u7 fun b hb o e => (pin' b hb o e).1, fun b hb => ?_, xe, we, nDe, eDe, ke, ee⟩
        obtain ⟨o, e, _⟩ := Tn.obj _ _ u7 b hb
        exact (pin' b hb o e).2
      subst hst
      have tgt : TGm Γ g v (L2.wipe σ own) H7 (fun σ8 H8 => L2.wipe σ8 own = L2.wipe σ own ∧ TTAll Γ Φ WF ifs σ8 H8 (fun b H9 => if b = true then T Γ Φ WF elt σ8 H9 (fun y H10 => ∃ al' S' acc' k, Ext al1 H1 al' H10 ∧ WI Γ.K Γ.T al' S' H10 ∧ D ∉ al' ∧ H10 D = some (SetOfKs X D ks5) ∧ y = kV k ∧ ks5.length + 1 < 1001 ∧ dKeys acc' = some (ks5 ++ [k]) ∧ comp its.1 (stepOf Φ (wipeE ρ own) g ifs elt) (its.2.drop (i + 1)) acc' S' = .ok accF SF)
          else ∃ al' S', Ext al1 H1 al' H9 ∧ WI Γ.K Γ.T al' S' H9 ∧ D ∉ al' ∧ H9 D = some (SetOfKs X D ks5) ∧ comp its.1 (stepOf Φ (wipeE ρ own) g ifs elt) (its.2.drop (i + 1)) acc5 S' = .ok accF SF)) := by
        refine step_read w7 rw7 rvx hk _ fun ρ' σ' r' hl hj q => ⟨?_, al5, ρ', S5, w7, r', ?_⟩
        · have := wipe_same (σ := L2.wipe σ own) (τ := σ') (vs := own) (gs := tgS g) (by rw [wipe_length]; exact hl) (fun j hjn => ?_) hgs
          · rw [this]; exact wipe_wipe _ _
          · rw [wipe_wipe]; exact hj j hjn
        · refine q.imp fun b al8 S8 H8 x8 w8 q8 => ?_
          have eD8 := x8.keep D _ eD7 nD7 fun ps z => by cases z
          have nD8 : D ∉ al8 := x8.notin eD7 nD7
          have xx : Ext al1 H1 al8 H8 := (x5.trans x7).trans x8
          cases b with
          | false =>
            rw [if_neg Bool.false_ne_true] at q8
            refine iteF ?_
            rcases q8 with ⟨y, k, z, _⟩ | ⟨_, e⟩
            · cases z
            · exact ⟨al8, S8, xx, w8, nD8, eD8, e⟩
          | true =>
            rw [if_pos rfl] at q8
            refine iteT ?_
            refine T_of w8 (r'.ext w7 x8) q8 fun y al9 S9 H9 v9 x9 w9 r9 rv9 q9 => ?_
            rcases q9 with ⟨y', k, z, hk1, hk2, hk3, e⟩ | ⟨z, _⟩
            · cases z
              exact ⟨al9, S9, _, k, xx.trans x9, w9, x9.notin eD8 nD8, (x9.keep D _ eD8 nD8 fun ps z => by cases z), dKey_kV rv9 hk1, hk3, hk2, e⟩
            · cases z
      refine thnF (pg.run _ s7 _ H7 v u _ I7p rv7 tgt) fun _ s8 ⟨σ8, H8, I8, ew8, q8⟩ => ?_
      refine thnF (pt.run _ s8 σ8 H8 _ I8 q8) fun b s9 ⟨H9, I9, q9⟩ => ?_
      cases b with
      | false =>
        rw [if_neg Bool.false_ne_true] at q9 ⊢
        obtain ⟨al', S', z1, z2, z3, z4, z5⟩ := q9
        exact again I9 ew8 z1 z2 z3 z4 k5 z5
      | true =>
        rw [if_pos rfl] at q9 ⊢
        refine thnF (pe.run _ s9 σ8 H9 _ I9 q9) fun uy s10 ⟨vy, H10, I10, r10, al', S', acc', k, z1, z2, z3, z4, z5, z6, z7, z8⟩ => ?_
        subst z5
        refine thnF (add_key (X := X.blk t1 Hs scope ce fps) (Q := fun _ s' => Inv (X.blk t1 Hs scope ce fps) ([] ++ pinsAt fps s7.heap) σ8 (upd H10 D (SetOfKs (X.blk t1 Hs scope ce fps) D (ks5 ++ [k]))) s') I10 z4 r10 z6 fun _ s11 I11 => I11) fun _ s11 I11 => ?_
        obtain ⟨w11, hT⟩ := z2.side (o' := SetOfKs X D (ks5 ++ [k])) z3 z4 ⟨_, rfl⟩
        exact again I11 ew8 ⟨z1.pre, z1.new, fun b o e1 e2 e3 => by
          rw [upd_ne (fun z => by rw [z, nD] at e1; cases e1)]
          exact z1.keep b o e1 e2 e3, fun b ps e1 e2 => by
          rw [upd_ne (fun z => by rw [z, nD] at e1; cases e1)]
          exact z1.tab b ps e1 e2⟩ w11 z3 upd_same z7 z8
    · have e : i = its.2.length := by omega
      subst e
      rw [List.drop_length] at e5 hnb5
      obtain ⟨hstill, e6⟩ := comp_nil hnb5
      rw [e6] at e5
      cases e5
      rw [k5] at eK; cases eK
      refine thnF (Tn.done (X.blk t1 Hs scope ce fps) rfl rfl rfl gx.calm _ [] s5 _ H5 (fun _ _ => False) I5 (fpk I5 n5) u5 (iw hstill).2) fun rr s6 ⟨er, I6⟩ => ?_
      subst er
      have I7 : Inv X pins σ H5 s6 := I2.call' (ch := fps) I6.os I6.base I6.hok I6.bare fun b hb => ⟨(fr1 b hb).1.2.2.2.1, (fr1 b hb).1.2.1, (fr1 b hb).1.2.2.2.2.1, (fr1 b hb).1.2.2.2.2.2⟩
      have nC : H5 t1.heap.objs.size = none := by
        have z : H5 ce.locals = none := I6.free
        rw [cL] at z; exact z
      obtain ⟨mm, hmm, _⟩ := I6.loc
      have hmm : s6.heap.Ns ce.locals mm := hmm
      rw [cL] at hmm
      refine ⟨mm, hmm, fun h'' sb => ?_⟩
      obtain ⟨f0, f1, f2, f3, f4, f5⟩ := I2.fpOk (H' := H5) (Nat.le_refl t1.heap.objs.size) nC
      have I8 := I7.turned (t' := s6.toks) (h' := h'') (fun b o hb e => (sb.2 b hb).trans e) f0 f1 f3 f4 f5
      rw [hQQ]
      refine Calls.spliced_nil ?_
      refine len_keys I8 eD5 fun n t => ?_
      exact ⟨.int _, H5, I8.tok _, ⟨_, rfl⟩, q1 al5 H5 x5 w5 _ (.int _)⟩
  exact PpSet.codeAny_compStart_set loop (Tn.self X.A 0 _ _ _ u2 loop)
end
end Mi
set_option autoImplicit true
set_option Elab.async false
set_option linter.all false
set_option maxRecDepth 100000
set_option maxHeartbeats 4000000
/-! MiC2: a list turned around; constants and dicts of the module; a dict's display. -/
namespace Mi
open PySem PySem.Spec PyProof.Rows L2
section
variable {X : Cx} {Γ : Gam} {Φ : Orc} {W : WX} {pos : Pos} {lv : Nat}
theorem T.mono {m : E} {σ : L2.St} {H : Hp} {Q Q' : VK} (h : T Γ Φ W m σ H Q) (i : ∀ v H', Q v H' → Q' v H') : T Γ Φ W m σ H Q' := by
  obtain ⟨al, ρ, S, w, r, h⟩ := h
  exact T_of w r h fun d al' S' H' v x w' r' rv q => i _ _ (q v rv)
theorem s_rev {a : E} {v : Expr} {k : Nat} {p1 p2 p3 : Pos} (g : G Γ Φ X W lv) (ha : PE X v (T Γ Φ W a)) : PE X (.Subscript v (.Slice none none (some (.UnaryOp .USub (.Constant (.int 1) k p1) p2)) p3) pos) (T Γ Φ W (.rev a)) := by
  refine (pe_revL ha).imp fun σ H Q ⟨al, ρ, S, w, r, h⟩ => T_of w r (Post.bind h) fun d al' S' H' v x w' r' rv q => ?_
  cases d with
  | ref n =>
    have q : Post Γ (fun c d H => W c d σ H) al' H' (match listAt S' n with | some xs => .ok (.ref S'.length) (S' ++ [.lst xs.reverse]) | none => .bad) (KV' Γ Q) := q
    split at q
    · rename_i xs hx
      obtain ⟨a, vs, e1, e2, r1⟩ := w'.list hx
      cases rv with | ref e3 =>
      rw [e1] at e3; cases e3
      exact ⟨a, vs, rfl, by rw [g.K]; exact e2, fun p hp => q.lst w' r1.reverse hp⟩
    · exact q.elim
  | _ => exact q.elim
theorem s_glb {f : Nat} {x : Str} (g : G Γ Φ X W lv) (hf : Γ.nm[f]? = some (x, conM)) (hg : glB X.env.scope x = true) (ho : okB x = true) : PE X (.Name x pos) (T Γ Φ W (.glb f)) := by
  obtain ⟨u, v, d, hm, ru, hd, hr⟩ := g.con f x hf
  refine (pe_glob (glOf hg) hm ru (okOf ho).1).imp fun σ H Q ⟨al, ρ, S, w, r, h⟩ => ?_
  have h : Post Γ (fun c d H => W c d σ H) al H (Φ f [] S) (KV' Γ Q) := h
  rw [hd] at h
  exact h.ok w v (hr al H)
theorem in_read {f : Nat} {a : E} {ng : Bool} {da : Addr} {σ : L2.St} {H : Hp} {k : D → List Addr → Store → Hp → Prop} {al : List Addr} {ρ : Env} {S : Store} {Q : Bool → Hp → Prop} (w : WI Γ.K Γ.T al S H) (r : RE Γ.K al H ρ σ)
    (hΦ : ∀ d S, Φ f [d] S ≠ .bad → ∃ z r u v, d = .str z ∧ Φ f [d] S = .ok r S ∧ PySem.W.nsIn X.K da z = some (some u) ∧ RelV v u ∧ ∀ al H, RV Γ.K al H r v)
    (h : Post Γ (fun c d H => W c d σ H) al H (ev Φ (.inG ng a f) ρ S) k) (hk : ∀ al' S' H', WI Γ.K Γ.T al' S' H' → k (.bl (!ng)) al' S' H' → Q (!ng) H') :
    T Γ Φ W a σ H (fun v H1 => ∃ z u, v = .str z ∧ PySem.W.nsIn X.K da z = some (some u) ∧ Q (!ng) H1) := by
  refine T_of w r (Post.bind h) fun d al' S' H' v x w' r' rv q => ?_
  have q : Post Γ (fun c d H => W c d σ H) al' H' ((Φ f [d] S').bind fun _ S => .ok (.bl (!ng)) S) k := q
  have hnb : Φ f [d] S' ≠ .bad := fun z => by rw [z] at q; exact q
  obtain ⟨z, r0, u, v0, rfl, e, hn, _⟩ := hΦ d S' hnb
  rw [e] at q
  cases rv
  exact ⟨z, u, rfl, hn, hk _ _ _ w' (q.ok w')⟩
theorem s_inG {f : Nat} {a : E} {ng : Bool} {x : Str} {l : Expr} {p : Pos} {op : CmpOp} (g : G Γ Φ X W lv) (hf : Γ.nm[f]? = some (x, dicM)) (hg : glB X.env.scope x = true) (ho : okB x = true) (hop : op = if ng then .NotIn else .In) (ha : PE X l (T Γ Φ W a)) :
    PE X (.Compare l [op] [.Name x p] pos) (T Γ Φ W (.inG ng a f)) ∧ PT X (.Compare l [op] [.Name x p] pos) (TTr Γ Φ W (.inG ng a f)) := by
  obtain ⟨da, es, n, hm, kd, hΦ⟩ := g.dic f x hf
  have pg : PE X (.Name x p) (tC (.ref da)) := pe_glob (glOf hg) hm rfl (okOf ho).1
  have key : ∀ b : Bool, b = (!ng) → ∀ (o : OpR X (compareOp op) (fun x y H Q => ∃ (z : Str) (r : Option Value), x = .str z ∧ y = .ref da ∧ PySem.W.nsIn X.K da z = some r ∧ Q (.bl (if b then r.isSome else !r.isSome)) H)),
      PE X (.Compare l [op] [.Name x p] pos) (T Γ Φ W (.inG ng a f)) ∧ PT X (.Compare l [op] [.Name x p] pos) (TTr Γ Φ W (.inG ng a f)) := fun b hb o => by
    have e1 : ∀ {u : Value}, (if b then (some u).isSome else !(some u).isSome) = (!ng) := fun {u} => by subst hb; cases ng <;> rfl
    refine ⟨(pe_cmpR o ha pg (by cases op <;> rfl)).imp fun σ H Q ⟨al, ρ, S, w, r, h⟩ => ?_, (pt_cmpR o ha pg (by cases op <;> rfl)).imp fun σ H Q ⟨al, ρ, S, w, r, h⟩ => ?_⟩
    · have q := in_read (X := X) (da := da) (Q := fun b H => Q (.bl b) H) w r hΦ h fun al' S' H' w' q => q _ (.bl _)
      exact T.mono q fun v H' ⟨z, u, e, hn, q⟩ => ⟨z, some u, e, rfl, hn, by rw [e1]; exact q⟩
    · have q := in_read (X := X) (da := da) (Q := Q) w r hΦ (Post.bind h) fun al' S' H' w' q => by
        obtain ⟨c, e, q⟩ := Post.ofO w' q
        cases e
        exact q
      exact T.mono q fun v H' ⟨z, u, e, hn, q⟩ => ⟨z, some u, e, rfl, hn, _, rfl, by rw [e1]; exact q⟩
  cases ng with
  | true => subst hop; exact key false rfl (op_notIn_kd kd)
  | false => subst hop; exact key true rfl (op_in_kd kd)
theorem s_subG {f : Nat} {i : E} {x : Str} {s : Expr} {p : Pos} (g : G Γ Φ X W lv) (hf : Γ.nm[f]? = some (x, dicM)) (hg : glB X.env.scope x = true) (ho : okB x = true) (hi : PE X s (T Γ Φ W i)) (hs : sliceB s = false) : PE X (.Subscript (.Name x p) s pos) (T Γ Φ W (.subG f i)) := by
  obtain ⟨da, es, n, hm, kd, hΦ⟩ := g.dic f x hf
  have pg : PE X (.Name x p) (tC (.ref da)) := pe_glob (glOf hg) hm rfl (okOf ho).1
  refine (pe_ix ix_kdict pg hi (plainIx hs)).imp fun σ H Q ⟨al, ρ, S, w, r, h⟩ => ?_
  have h : Post Γ (fun c d H => W c d σ H) al H ((ev Φ i ρ S).bind fun d S => Φ f [d] S) (KV' Γ Q) := h
  refine T_of w r (Post.bind h) fun d al' S' H' v x w' r' rv q => ?_
  have hnb : Φ f [d] S' ≠ .bad := fun z => by rw [z] at q; exact q
  obtain ⟨z, r0, u, v0, rfl, e, hn, ru, hr⟩ := hΦ d S' hnb
  rw [e] at q
  cases rv
  exact ⟨da, z, v0, rfl, rfl, ⟨es, n, u, kd.at_, kd.lit, hn, ru⟩, q.ok w' _ (hr al' H')⟩
/-! ### a dict's display with text keys -/
def kpairs (ks : List Str) (vs : List V) : List (V × V) := (ks.map V.str).zip vs
/-- the values' terms -/
def tms (Γ : Gam) (Φ : Orc) (W : WX) : List Str → E → List (TE × TE)
  | k :: ks, .cons a b => (tC (.str k), T Γ Φ W a) :: tms Γ Φ W ks b
  | _, _ => []
def fitB : List Str → E → Bool
  | [], .nil => true
  | _ :: ks, .cons _ b => fitB ks b
  | _, _ => false
theorem pairs_read : ∀ {ks : List Str} {m : E} {σ : L2.St} {H : Hp} {Q : List (V × V) → Hp → Prop} {al : List Addr} {ρ : Env} {S : Store} {k : List D → List Addr → Store → Hp → Prop}, fitB ks m = true → WI Γ.K Γ.T al S H → RE Γ.K al H ρ σ → Post Γ (fun c d H => W c d σ H) al H (evs Φ m ρ S) k →
    (∀ ds al' S' H' vs, Ext al H al' H' → WI Γ.K Γ.T al' S' H' → RVs Γ.K al' H' ds vs → ds.length = ks.length → k ds al' S' H' → Q (kpairs ks vs) H') → tPairs (tms Γ Φ W ks m) σ H Q
  | [], .nil, σ, H, Q, al, ρ, S, k, _, w, r, h, i => i [] al S H [] .refl w .nil rfl (Post.ok (b := ([] : List D)) w h)
  | x :: ks, .cons a b, σ, H, Q, al, ρ, S, k, hf, w, r, h, i => by
    show T Γ Φ W a σ H (fun y H2 => tPairs (tms Γ Φ W ks b) σ H2 fun ps H3 => Q ((.str x, y) :: ps) H3)
    refine T_of w r (Post.bind h) fun d al1 S1 H1 v x1 w1 r1 rv q => ?_
    refine pairs_read (ks := ks) (m := b) hf w1 r1 (Post.bind q) fun ds al2 S2 H2 vs x2 w2 rvs hl q2 => ?_
    exact i (d :: ds) al2 S2 H2 (v :: vs) (x1.trans x2) w2 (.cons (rv.ext w1 x2) rvs) (by simp [hl]) (Post.ok (b := d :: ds) w2 q2)
def dkeyB : List Str → List (Option Expr) → Bool
  | [], [] => true
  | k :: ks, some (.Constant (.str x) _ _) :: es => decide (k = x) && dkeyB ks es
  | _, _ => false
/-- the values' texts -/
inductive Each (X : Cx) (Γ : Gam) (Φ : Orc) (W : WX) : E → List Expr → Prop where
  | nil : Each X Γ Φ W .nil []
  | cons {a b : E} {e : Expr} {es : List Expr} : PE X e (T Γ Φ W a) → Each X Γ Φ W b es → Each X Γ Φ W (.cons a b) (e :: es)
theorem pps_each {pos : Pos} : ∀ {ks : List Str} {m : E} {keys : List (Option Expr)} {values : List Expr}, dkeyB ks keys = true → fitB ks m = true → Each X Γ Φ W m values → PPs X pos keys values (tms Γ Φ W ks m) ∧ keys.all (·.isSome) = true ∧ keys.length = values.length ∧ keys.length = ks.length
  | [], .nil, [], [], _, _, .nil => ⟨pps_nil, rfl, rfl, rfl⟩
  | k :: ks, .cons a b, some (.Constant (.str x) j p) :: keys, e :: values, h1, h2, .cons ha hb => by
    have h5 : (decide (k = x) && dkeyB ks keys) = true := h1
    rw [Bool.and_eq_true, decide_eq_true_eq] at h5
    obtain ⟨h5, h6⟩ := h5
    subst h5
    obtain ⟨q1, q2, q3, q4⟩ := pps_each (pos := pos) (ks := ks) (m := b) (keys := keys) (values := values) h6 h2 hb
    exact ⟨pps_cons pe_str ha q1, by simpa using q2, by simp [q3], by simp [q4]⟩
/-- an object aside the store changes -/
theorem WI.swap {K : PySem.W.Frag} {Ta al : List Addr} {S : Store} {H : Hp} (w : WI K Ta al S H) {p : Addr} {kvs : List (Key × V)} {o' : HO} (hD : p ∉ al) (e : H p = some (.dK kvs)) : WI K Ta al S (upd H p o') ∧ ∀ a zs, SqT K H a zs → SqT K (upd H p o') a zs := by
  have hT : ∀ a zs, SqT K H a zs → SqT K (upd H p o') a zs := fun a zs z => by
    rcases z with (z | ⟨u, z⟩) | z
    · exact .inl (.inl (by rw [upd_ne (ne_of z e (by intro q; cases q))]; exact z))
    · exact .inl (.inr ⟨u, by rw [upd_ne (ne_of z e (by intro q; cases q))]; exact z⟩)
    · exact .inr z
  exact ⟨⟨w.len, w.nd, fun n ob a h1 h2 => (w.ob n ob a h1 h2).mono (upd_ne fun z => hD (by rw [← z]; exact List.mem_of_getElem? h2)) hT (List.prefix_refl _), fun q hq => let ⟨ps, e2, t⟩ := w.tab q hq; ⟨ps, by rw [upd_ne (ne_of e2 e (by intro q; cases q))]; exact e2, t⟩⟩, hT⟩
theorem merge_app : ∀ {more acc : List (Key × V)}, ((acc ++ more).map (·.1)).Nodup → mergeK acc more = acc ++ more
  | [], acc, _ => by simp [mergeK]
  | (k, v) :: more, acc, h => by
    have hn : (acc.any fun kv => decide (kv.1 = k)) = false := by
      rw [List.any_eq_false]
      intro kv hkv e
      have e := of_decide_eq_true e
      rw [List.map_append, List.map_cons, List.nodup_append] at h
      exact h.2.2 kv.1 (List.mem_map_of_mem hkv) k List.mem_cons_self e
    have e : putK acc k v = acc ++ [(k, v)] := by unfold putK; rw [hn]; rfl
    show mergeK (putK acc k v) more = _
    rw [e, merge_app (by simpa using h)]
    simp
theorem s_dsp {ks : List Str} {m : E} {keys : List (Option Expr)} {values : List Expr} (h1 : dkeyB ks keys = true) (h2 : fitB ks m = true) (h3 : ks ≠ []) (hz : ks.length ≤ 15) (h4 : Each X Γ Φ W m values) : PE X (.Dict keys values pos) (T Γ Φ W (.dsp ks m)) := by
  obtain ⟨q1, q2, q3, q4⟩ := pps_each (pos := pos) h1 h2 h4
  · refine (pe_disp q1 q2 q3 (fun z => h3 (by rw [z] at q4; exact List.length_eq_zero_iff.mp q4.symm)) (by omega)).imp fun σ H Q ⟨al, ρ, S, w, r, h⟩ p hp => ?_
    have h : Post Γ (fun c d H => W c d σ H) al H ((evs Φ m ρ S).bind fun ds S => if ds.length = ks.length ∧ ks.Nodup ∧ ks.length ≤ 15 then .ok (.ref S.length) (S ++ [.dct ((ks.map Sum.inr).zip ds)]) else .bad) (KV' Γ Q) := h
    have x0 : Ext al H al (upd H p (.dK [])) := .tup hp
    have hk : Post Γ (fun c d H => W c d σ H) al H (evs Φ m ρ S) (fun ds _ S' _ => Post Γ (fun c d H => W c d σ H) al H (if ds.length = ks.length ∧ ks.Nodup ∧ ks.length ≤ 15 then .ok (.ref S'.length) (S' ++ [.dct ((ks.map Sum.inr).zip ds)]) else .bad) (KV' Γ Q)) := by
      cases e : evs Φ m ρ S with
      | ok ds S' => rw [e] at h; exact fun _ _ _ _ => h
      | ex c v S' => rw [e] at h; exact h
      | bad => rw [e] at h; exact h
    refine pairs_read h2 (w.tup hp) (r.ext w x0) (hk.move x0) fun ds al2 S2 H2 vs x2 w2 rvs hl q => ?_
    have np : p ∉ al := fun z => w.there z hp
    have e2 : H2 p = some (.dK []) := x2.keep p _ upd_same np fun ps z => by cases z
    have np2 : p ∉ al2 := x2.notin upd_same np
    split at q
    · rename_i hc
      obtain ⟨c1, c2, c3⟩ := hc
      refine ⟨e2, ((ks.map Sum.inr).zip vs), ?_, ?_, ?_⟩
      · unfold kpairs
        rw [List.zip_map_left, List.zip_map_left, List.map_map]
        rfl
      · rw [List.length_zip, List.length_map]; omega
      · have hvl : vs.length = ks.length := by rw [← rvs.length, hl]
        have em : mergeK [] ((ks.map Sum.inr).zip vs) = (ks.map Sum.inr).zip vs := merge_app (by
          rw [List.nil_append, List.map_fst_zip (by simp [hvl])]
          exact List.pairwise_map.mpr (c2.imp fun hne e => hne (by cases e; rfl)))
        rw [em]
        obtain ⟨w3, hT⟩ := w2.swap (o' := .dK ((ks.map Sum.inr).zip vs)) np2 e2
        have x3 : Ext al H (al2 ++ [p]) (upd H2 p (.dK ((ks.map Sum.inr).zip vs))) := by
          have xx := x0.trans x2
          refine ⟨xx.pre.trans (List.prefix_append _ _), fun b hb => ?_, fun b o e1 e2 e3 => ?_, fun b ps e1 e2 => ?_⟩
          · rcases List.mem_append.mp hb with z | z
            · exact xx.new b z
            · rw [List.mem_singleton.mp z]; exact .inr hp
          · rw [upd_ne (fun z => by rw [z, hp] at e1; cases e1)]
            exact xx.keep b o e1 e2 e3
          · rw [upd_ne (fun z => by rw [z, hp] at e1; cases e1)]
            exact xx.tab b ps e1 e2
        have rr : RVs Γ.K (al2 ++ [p]) (upd H2 p (.dK ((ks.map Sum.inr).zip vs))) ds vs := rvs.mono hT (List.prefix_append _ _)
        have w4 := w3.add (ob := .dct ((ks.map Sum.inr).zip ds)) np2 ⟨(ks.map Sum.inr).zip vs, upd_same, by rw [List.map_fst_zip (by simp only [List.length_map]; omega), List.map_fst_zip (by simp only [List.length_map]; omega)], by rw [List.map_snd_zip (by simp only [List.length_map]; omega), List.map_snd_zip (by simp only [List.length_map]; omega)]; exact rr⟩
        refine q _ _ x3 w4 _ (.ref ?_)
        rw [List.getElem?_append_right (by rw [w2.len]; exact Nat.le_refl _), w2.len, Nat.sub_self]; rfl
    · exact q.elim
end
end Mi
set_option autoImplicit true
set_option Elab.async false
set_option linter.all false
set_option maxRecDepth 100000
set_option maxHeartbeats 4000000
/-! MiB8: which text a term of the small language stands for (chk); what passes the check means what the text does (snd). -/
namespace Mi
open PySem PySem.Spec PyProof.Rows L2
/-! ### the check -/
def gkN : Gk → Str
  | .all => "all" | .any => "any" | .tup => "tuple" | .sum => "sum" | .sorted => "sorted"
def genNs (sc : Scope) : List Str := (sc.names.filter fun y => (y.2 == .local) && !(y.1 == (".0" : Str))).map (·.1)
/-- a generator expression's scope -/
def genB (N : List Str) (sc scope : Scope) (ns : List Str) (caps : List Nat) : Bool :=
  (match scope.kind with | .function => true | _ => false) && !scope.isCoroutine && (scope.names.all fun y => !(y.2 == .cell)) && decide (scope.names.lookup (".0" : Str) = some NameKind.local) &&
  (scope.names.all fun y => !(y.2 == .free) || (match sc.names.lookup y.1 with | some .cell => true | some .free => true | _ => false)) &&
  (caps.all fun i => decide (i < N.length) && decide (scope.names.lookup (N.getD i "") = some .free)) && decide ((ns ++ caps.map fun i => N.getD i "").Nodup)
theorem genOk_by {N : List Str} {sc scope : Scope} {ns : List Str} {caps : List Nat} (h : genB N sc scope ns caps = true) : GenOk N sc scope ns caps := by
  unfold genB at h
  simp only [Bool.and_eq_true, List.all_eq_true, decide_eq_true_eq, Bool.not_eq_true'] at h
  obtain ⟨⟨⟨⟨⟨⟨h1, h2⟩, h3⟩, h4⟩, h5⟩, h6⟩, h7⟩ := h
  refine ⟨?_, h2, fun y hy e => ?_, h4, fun y hy e => ?_, h6, h7⟩
  · split at h1
    · assumption
    · cases h1
  · have := h3 y hy
    rw [e] at this
    cases this
  · have q := h5 y hy
    rw [e] at q
    have q : (false || (match sc.names.lookup y.1 with | some .cell => true | some .free => true | _ => false)) = true := q
    rw [Bool.false_or] at q
    split at q
    · exact .inl (by assumption)
    · exact .inr (by assumption)
    · cases q
def tgSub (is : List Nat) : Tg → Bool
  | .nm i => is.contains i
  | .tup js => js.all fun i => is.contains i
def tgLt (n : Nat) : Tg → Bool
  | .nm i => decide (i < n)
  | .tup js => js.all fun i => decide (i < n)
def notSet : Expr → Bool | .Set .. => false | _ => true
def notSL : Expr → Bool | .Set .. => false | .List .. => false | _ => true
def cmpB : Expr → Bool
  | .Compare _ [_] [_] _ => true
  | .Compare _ [_, _] [_, _] _ => true
  | _ => false
section
variable (nm : List (Str × List Str))
mutual
def chk : E → Nat → List Str → Scope → Expr → Bool
  | .var i, _, N, sc, .Name x _ => decide (N[i]? = some x) && visB sc x && okB x
  | .cst d, _, _, _, .Constant c _ _ => cstB d c
  | .tup es, lv, N, sc, .Tuple xs _ _ => chks es lv N sc xs
  | .lst es, lv, N, sc, .List xs _ => chks es lv N sc xs
  | .bin o a b, lv, N, sc, .BinOp l op r _ => boOf o op && chk a lv N sc l && chk b lv N sc r
  | .neg a, lv, N, sc, .UnaryOp .USub x _ => chk a lv N sc x
  | .cmp o a b, lv, N, sc, .Compare l [op] [r] _ => coB o op && chk a lv N sc l && chk b lv N sc r && !setB r
  | .chn o1 o2 a b c, lv, N, sc, .Compare l [p1, p2] [r1, r2] _ => coB o1 p1 && coB o2 p2 && chk a lv N sc l && chk b lv N sc r1 && chk c lv N sc r2 && !setB r2
  | .and es, lv, N, sc, .BoolOp .And vs _ => chkVs es lv N sc vs
  | .or es, lv, N, sc, .BoolOp .Or vs _ => chkVs es lv N sc vs
  | .not a, lv, N, sc, .UnaryOp .Not x _ => chk a lv N sc x
  | .ite c a b, lv, N, sc, .IfExp t x y _ => chkT c lv N sc t && chk a lv N sc x && chk b lv N sc y
  | .sub a i, lv, N, sc, .Subscript v s _ => chk a lv N sc v && chk i lv N sc s && !sliceB s
  | .slc a lo hi, lv, N, sc, .Subscript v (.Slice l h none _) _ => chk a lv N sc v && chkP lo lv N sc l && chkP hi lv N sc h
  | .call f es, lv, N, sc, .Call (.Name x _) (e :: as) [] _ => decide (nm[f]? = some (x, [])) && glB sc x && okB x && chks es lv N sc (e :: as)
  | .call f (.cons a es), lv, N, sc, .Call (.Name x _) [e] (kw :: kws) _ => decide (nm[f]? = some (x, (kw :: kws).filterMap (·.arg))) && (kw :: kws).all (·.arg.isSome) && decide ((kw :: kws).filterMap (·.arg) ≠ conM) && decide ((kw :: kws).filterMap (·.arg) ≠ dicM) && glB sc x && okB x && chk a lv N sc e && !starB e && chks es lv N sc ((kw :: kws).map (·.value))
  | .fn b es, lv, N, sc, .Call (.Name x _) (e :: as) [] _ => decide (bfN b = x) && glB sc x && chks es lv N sc (e :: as)
  | .isi a t, lv, N, sc, .Call (.Name x _) [e, .Name y _] [] _ => decide (x = "isinstance") && glB sc x && chk a lv N sc e && !starB e && decide (tyN t = y) && glB sc y
  | .mth .append o es, lv, N, sc, .Call (.Attribute (.Name x p) y ap) [e] [] cp => chk o lv N sc (.Name x p) && decide (y = "append") && chks es lv N sc [e] && (ap.endLine == cp.line)
  | .mth .pop o .nil, lv, N, sc, .Call (.Attribute (.Name x p) y ap) [] [] cp => chk o lv N sc (.Name x p) && decide (y = "pop") && (ap.endLine == cp.line)
  | .lc own g it ifs elt, lv, N, sc, .ListComp el [⟨tg, iter, tests, 0⟩] scope _ =>
    blkC N sc scope (own.map fun i => (N.getD i "", i)) && chkIt it lv N sc iter && tgB (fun x => scope.names.lookup x == some .cell) N (relS scope sc) g tg && tgSub own g && chkIfs ifs lv N (relS scope sc) tests && chk elt lv N (relS scope sc) el
  | .gen k no caps g it ifs elt, lv, N, sc, .Call (.Name x _) [.GeneratorExp el [⟨tg, iter, tests, 0⟩] scope _] [] _ =>
    (lv == 1) && (match k with | .all => true | .any => true | .tup => true | .sorted => true | _ => false) && decide (gkN k = x) && glB sc x && genB N sc scope (genNs scope) caps && decide ((genNs scope).length = no) && chkIt it lv N sc iter && notSL iter &&
    tgB (fun _ => false) (gN N (genNs scope) caps) scope g tg && tgLt no g && chkIfs ifs 0 (gN N (genNs scope) caps) scope tests && chk elt 0 (gN N (genNs scope) caps) scope el
  | .lenSet own g it ifs elt, lv, N, sc, .Call (.Name x _) [.SetComp el [⟨tg, iter, tests, 0⟩] scope _] [] _ =>
    decide (x = "len") && glB sc x && blkC N sc scope (own.map fun i => (N.getD i "", i)) && chkIt it lv N sc iter && tgB (fun x => scope.names.lookup x == some .cell) N (relS scope sc) g tg && tgSub own g && chkIfs ifs lv N (relS scope sc) tests && chk elt lv N (relS scope sc) el
  | .rev a, lv, N, sc, .Subscript v (.Slice none none (some (.UnaryOp .USub (.Constant (.int i) _ _) _)) _) _ => decide (i = 1) && chk a lv N sc v
  | .glb f, _, _, sc, .Name x _ => decide (nm[f]? = some (x, conM)) && glB sc x && okB x
  | .inG ng a f, lv, N, sc, .Compare l [op] [.Name x _] _ => decide (nm[f]? = some (x, dicM)) && glB sc x && okB x && decide (op = if ng then .NotIn else .In) && chk a lv N sc l
  | .subG f i, lv, N, sc, .Subscript (.Name x _) s _ => decide (nm[f]? = some (x, dicM)) && glB sc x && okB x && chk i lv N sc s && !sliceB s
  | .dsp ks m, lv, N, sc, .Dict keys values _ => dkeyB ks keys && fitB ks m && !ks.isEmpty && decide (ks.length ≤ 15) && chks m lv N sc values
  | _, _, _, _, _ => false
def chks : E → Nat → List Str → Scope → List Expr → Bool
  | .nil, _, _, _, [] => true
  | .cons a b, lv, N, sc, e :: es => chk a lv N sc e && !starB e && chks b lv N sc es
  | _, _, _, _, _ => false
def chkT : E → Nat → List Str → Scope → Expr → Bool
  | .and es, lv, N, sc, .BoolOp .And vs _ => chkTs es lv N sc vs
  | .or es, lv, N, sc, .BoolOp .Or vs _ => chkTs es lv N sc vs
  | .not a, lv, N, sc, .UnaryOp .Not x _ => chkT a lv N sc x
  | .tr a, lv, N, sc, e => chk a lv N sc e && (plainB e || cmpB e)
  | _, _, _, _, _ => false
/-- not empty -/
def chkTs : E → Nat → List Str → Scope → List Expr → Bool
  | .cons a .nil, lv, N, sc, [e] => chkT a lv N sc e
  | .cons a b, lv, N, sc, e :: e' :: es => chkT a lv N sc e && chkTs b lv N sc (e' :: es)
  | _, _, _, _, _ => false
def chkIfs : E → Nat → List Str → Scope → List Expr → Bool
  | .nil, _, _, _, [] => true
  | .cons a .nil, lv, N, sc, [e] => chkT a lv N sc e
  | _, _, _, _, _ => false
def chkVs : E → Nat → List Str → Scope → List Expr → Bool
  | .cons a .nil, lv, N, sc, [e] => chk a lv N sc e
  | .cons a b, lv, N, sc, e :: e' :: es => chk a lv N sc e && chkVs b lv N sc (e' :: es)
  | _, _, _, _, _ => false
def chkP : E → Nat → List Str → Scope → Option Expr → Bool
  | .nil, _, _, _, none => true
  | .cons a .nil, lv, N, sc, some e => chk a lv N sc e
  | _, _, _, _, _ => false
def chkIt : E → Nat → List Str → Scope → Expr → Bool
  | .itSeq a, lv, N, sc, e => chk a lv N sc e && notSet e
  | .itRng1 a, lv, N, sc, .Call (.Name x _) [e] [] _ => decide (x = "range") && glB sc x && chk a lv N sc e && !starB e
  | .itRng2 a b, lv, N, sc, .Call (.Name x _) [e, e'] [] _ => decide (x = "range") && glB sc x && chk a lv N sc e && chk b lv N sc e' && !starB e && !starB e'
  | _, _, _, _, _ => false
end
theorem nostars : ∀ {m : E} {lv : Nat} {N : List Str} {sc : Scope} {es : List Expr}, chks nm m lv N sc es = true → ∀ (env : PySem.Env) (pos : Pos), (backTo pos (starEach es env)).any (·.1) = false
  | .nil, _, _, _, [], _, _, _ => rfl
  | .cons a b, lv, N, sc, e :: es, h, env, pos => by
    have h : (chk nm a lv N sc e && !starB e && chks nm b lv N sc es) = true := by rw [chks] at h; exact h
    simp only [Bool.and_eq_true, Bool.not_eq_true'] at h
    rw [star_ok h.1.2]
    show (false || (backTo pos (starEach es env)).any (·.1)) = false
    rw [Bool.false_or]
    exact nostars h.2 env pos
end
def TVa (Γ : Gam) (Φ : Orc) (W : WX) (m : E) : TE := fun σ H Q => ∃ al ρ S, WI Γ.K Γ.T al S H ∧ RE Γ.K al H ρ σ ∧ Post Γ (fun c d H => W c d σ H) al H (evAnd Φ m ρ S) (KV' Γ Q)
def TVo (Γ : Gam) (Φ : Orc) (W : WX) (m : E) : TE := fun σ H Q => ∃ al ρ S, WI Γ.K Γ.T al S H ∧ RE Γ.K al H ρ σ ∧ Post Γ (fun c d H => W c d σ H) al H (evOr Φ m ρ S) (KV' Γ Q)
structure Snd (Γ : Gam) (Φ : Orc) (m : E) : Prop where
  e : ∀ {X : Cx} {W : WX} {lv : Nat} {x : Expr}, G Γ Φ X W lv → chk Γ.nm m lv X.N X.env.scope x = true → PE X x (T Γ Φ W m)
  es : ∀ {X : Cx} {W : WX} {lv : Nat} {x : List Expr}, G Γ Φ X W lv → chks Γ.nm m lv X.N X.env.scope x = true → PA X x (TL Γ Φ W m)
  t : ∀ {X : Cx} {W : WX} {lv : Nat} {x : Expr}, G Γ Φ X W lv → chkT Γ.nm m lv X.N X.env.scope x = true → PT X x (TTt Γ Φ W m)
  ta : ∀ {X : Cx} {W : WX} {lv : Nat} {x : List Expr} {pos : Pos}, G Γ Φ X W lv → chkTs Γ.nm m lv X.N X.env.scope x = true → PW X (.BoolOp .And x pos) (TTAll Γ Φ W m)
  to : ∀ {X : Cx} {W : WX} {lv : Nat} {x : List Expr} {pos : Pos}, G Γ Φ X W lv → chkTs Γ.nm m lv X.N X.env.scope x = true → PW X (.BoolOp .Or x pos) (TTAny Γ Φ W m)
  ifs : ∀ {X : Cx} {W : WX} {lv : Nat} {x : List Expr}, G Γ Φ X W lv → chkIfs Γ.nm m lv X.N X.env.scope x = true → PTs X x (TTAll Γ Φ W m)
  va : ∀ {X : Cx} {W : WX} {lv : Nat} {x : List Expr} {pos : Pos}, G Γ Φ X W lv → chkVs Γ.nm m lv X.N X.env.scope x = true → PE X (.BoolOp .And x pos) (TVa Γ Φ W m)
  vo : ∀ {X : Cx} {W : WX} {lv : Nat} {x : List Expr} {pos : Pos}, G Γ Φ X W lv → chkVs Γ.nm m lv X.N X.env.scope x = true → PE X (.BoolOp .Or x pos) (TVo Γ Φ W m)
  p : ∀ {X : Cx} {W : WX} {lv : Nat} {x : Option Expr}, G Γ Φ X W lv → chkP Γ.nm m lv X.N X.env.scope x = true → PO X x (TP Γ Φ W m)
  it : ∀ {X : Cx} {W : WX} {lv : Nat} {x tg : Expr}, G Γ Φ X W lv → chkIt Γ.nm m lv X.N X.env.scope x = true → PI X tg x (TIt Γ Φ W m)
theorem fold_set {nm : List (Str × List Str)} {m : E} {lv : Nat} {N : List Str} {sc : Scope} {e : Expr} (h : chkIt nm m lv N sc e = true) (env : PySem.Env) (x : Value) : foldedSetIterable e env x = pure x := by
  cases m <;> rw [chkIt.eq_def] at h
  case itSeq a =>
    simp only [Bool.and_eq_true] at h
    obtain ⟨_, h⟩ := h
    cases e <;> first | rfl | cases h
  all_goals (cases e <;> first | rfl | (simp at h))
theorem notSL_fold {e : Expr} (h : notSL e = true) (env : PySem.Env) (x : Value) : genFold e env x = pure x := by
  cases e <;> first | rfl | cases h
end Mi
set_option autoImplicit true
set_option Elab.async false
set_option linter.all false
set_option maxRecDepth 100000
set_option maxHeartbeats 4000000
/-! MiB9: what passes the check means what the text does. -/
namespace Mi
open PySem PySem.Spec PyProof.Rows L2
section
variable {Γ : Gam} {Φ : Orc}
theorem cbool {a b : Bool} (h : (a && b) = true) : a = true ∧ b = true := by cases a <;> cases b <;> first | exact ⟨rfl, rfl⟩ | cases h
theorem chks_cons {nm : List (Str × List Str)} {m : E} {lv : Nat} {N : List Str} {sc : Scope} {e : Expr} {es : List Expr} (h : chks nm m lv N sc (e :: es) = true) : starB e = false ∧ ∀ (env : PySem.Env) (pos : Pos), (backTo pos (starEach es env)).any (·.1) = false := by
  cases m with
  | cons a b =>
    rw [chks] at h
    simp only [Bool.and_eq_true, Bool.not_eq_true'] at h
    exact ⟨h.1.2, nostars nm h.2⟩
  | _ => rw [chks.eq_def] at h; cases h
theorem chks_shape {nm : List (Str × List Str)} {m : E} {lv : Nat} {N : List Str} {sc : Scope} {xs : List Expr} (h : chks nm m lv N sc xs = true) : (m = .nil ∧ xs = []) ∨ ∃ a b e es, m = .cons a b ∧ xs = e :: es ∧ chk nm a lv N sc e = true ∧ chks nm b lv N sc es = true := by
  rw [chks.eq_def] at h
  split at h
  · exact .inl ⟨rfl, rfl⟩
  · simp only [Bool.and_eq_true] at h
    exact .inr ⟨_, _, _, _, rfl, rfl, h.1.1, h.2⟩
  · cases h
theorem each_chks {X : Cx} {W : WX} {lv : Nat} (g : G Γ Φ X W lv) : ∀ (xs : List Expr) (m : E), (∀ k, sizeOf k < sizeOf m → Snd Γ Φ k) → chks Γ.nm m lv X.N X.env.scope xs = true → Each X Γ Φ W m xs
  | [], m, ih, h => by
    rcases chks_shape h with ⟨rfl, _⟩ | ⟨_, _, _, _, _, e, _⟩
    · exact .nil
    · cases e
  | x :: xs, m, ih, h => by
    rcases chks_shape h with ⟨_, e⟩ | ⟨a, b, e, es, rfl, e2, h1, h2⟩
    · cases e
    · cases e2
      exact .cons ((ih a (by simp <;> omega)).e g h1) (each_chks g xs b (fun k hk => ih k (by simp <;> omega)) h2)
theorem tgSub_mem {is : List Nat} {t : Tg} (h : tgSub is t = true) : ∀ j ∈ tgS t, j ∈ is := fun j hj => by
  cases t with
  | nm i => rw [List.mem_singleton.mp hj]; exact List.contains_iff_mem.mp h
  | tup js => exact List.contains_iff_mem.mp (List.all_eq_true.mp h j hj)
theorem tgLt_mem {n : Nat} {t : Tg} (h : tgLt n t = true) : ∀ j ∈ tgS t, j < n := fun j hj => by
  cases t with
  | nm i => rw [List.mem_singleton.mp hj]; exact of_decide_eq_true h
  | tup js => exact of_decide_eq_true (List.all_eq_true.mp h j hj)
theorem gparts_of {X : Cx} {W : WX} {el tg : Expr} {tests : List Expr} {ns : List Str} {caps : List Nat} {scope : Scope} {t : Tg} {ifs elt : E} (g : G Γ Φ X W 1) (ok : GenOk X.N X.env.scope scope ns caps)
    (h9 : tgB (fun _ => false) (gN X.N ns caps) scope t tg = true) (s1 : Snd Γ Φ ifs) (s2 : Snd Γ Φ elt) (h11 : chkIfs Γ.nm ifs 0 (gN X.N ns caps) scope tests = true) (h12 : chk Γ.nm elt 0 (gN X.N ns caps) scope el = true) : GParts Γ Φ X el tg tests ns caps scope t ifs elt :=
  ⟨fun s H cenv B pn fp hsc hr => by subst hsc; exact sg (g.gen (lv := 0) hr ok.nd) h9, fun s H cenv B pn fp hsc hr => by subst hsc; exact s1.ifs (g.gen (lv := 0) hr ok.nd) h11, fun s H cenv B pn fp hsc hr => by subst hsc; exact s2.e (g.gen (lv := 0) hr ok.nd) h12⟩
theorem s_gen {X : Cx} {W : WX} {pos : Pos} {tg el iter : Expr} {tests : List Expr} {scope : Scope} {gpos p : Pos} {ns : List Str} {caps : List Nat} {t : Tg} {it ifs elt : E} {k : Gk} (gx : G Γ Φ X W 1) (hk : (match k with | .all => true | .any => true | .tup => true | .sorted => true | _ => false) = true) (hgl : glB X.env.scope (gkN k) = true) (ok : GenOk X.N X.env.scope scope ns caps) (hgs : ∀ j ∈ tgS t, j < ns.length) (gp : GParts Γ Φ X el tg tests ns caps scope t ifs elt)
    (hi : PI X tg iter (TIt Γ Φ W it)) (hs : ∀ v, genFold iter X.env v = pure v) :
    PE X (.Call (.Name (gkN k) p) [.GeneratorExp el [⟨tg, iter, tests, 0⟩] scope gpos] [] pos) (T Γ Φ W (.gen k ns.length caps t it ifs elt)) := by
  cases k with
  | all => exact s_gall gx hgl ok hgs gp hi hs
  | any => exact s_gany gx hgl ok hgs gp hi hs
  | tup => exact s_gtup gx hgl ok hgs gp hi hs
  | sorted => exact s_gsorted gx hgl ok hgs gp hi hs
  | _ => cases hk
theorem sk_of {X : Cx} {W : WX} {lv : Nat} (g : G Γ Φ X W lv) : ∀ (kws : List Keyword) (m : E), (∀ k, sizeOf k < sizeOf m → Snd Γ Φ k) → chks Γ.nm m lv X.N X.env.scope (kws.map (·.value)) = true → PK X kws (TL Γ Φ W m)
  | [], m, ih, h => by
    rcases chks_shape h with ⟨rfl, _⟩ | ⟨_, _, _, _, _, e, _⟩
    · exact sk_nil
    · cases e
  | kw :: kws, m, ih, h => by
    rcases chks_shape h with ⟨_, e⟩ | ⟨a, b, e, es, rfl, e2, h1, h2⟩
    · cases e
    · rw [List.map_cons] at e2
      cases e2
      exact sk_cons ((ih a (by simp <;> omega)).e g h1) (sk_of g kws b (fun k hk => ih k (by simp <;> omega)) h2)
theorem snd_e {m : E} (ih : ∀ k, sizeOf k < sizeOf m → Snd Γ Φ k) {X : Cx} {W : WX} {lv : Nat} {x : Expr} (g : G Γ Φ X W lv) (h : chk Γ.nm m lv X.N X.env.scope x = true) : PE X x (T Γ Φ W m) := by
  rw [chk.eq_def] at h
  split at h
  · simp only [Bool.and_eq_true, decide_eq_true_eq] at h
    exact s_var g h.1.1 h.1.2 h.2
  · exact s_cst h
  · exact s_tup ((ih _ (by simp)).es g h)
  · exact s_lst ((ih _ (by simp)).es g h)
  · simp only [Bool.and_eq_true] at h
    exact s_bin g h.1.1 ((ih _ (by simp; omega)).e g h.1.2) ((ih _ (by simp; omega)).e g h.2)
  · exact s_neg ((ih _ (by simp)).e g h)
  · simp only [Bool.and_eq_true, Bool.not_eq_true'] at h
    exact s_cmp g h.1.1.1 ((ih _ (by simp; omega)).e g h.1.1.2) ((ih _ (by simp; omega)).e g h.1.2) h.2
  · simp only [Bool.and_eq_true, Bool.not_eq_true'] at h
    exact s_chn g h.1.1.1.1.1 h.1.1.1.1.2 ((ih _ (by simp; omega)).e g h.1.1.1.2) ((ih _ (by simp; omega)).e g h.1.1.2) ((ih _ (by simp; omega)).e g h.1.2) h.2
  · exact (ih _ (by simp)).va g h
  · exact (ih _ (by simp)).vo g h
  · exact s_not g ((ih _ (by simp)).e g h)
  · simp only [Bool.and_eq_true] at h
    exact s_ite ((ih _ (by simp; omega)).t g h.1.1) ((ih _ (by simp; omega)).e g h.1.2) ((ih _ (by simp; omega)).e g h.2)
  · simp only [Bool.and_eq_true, Bool.not_eq_true'] at h
    exact s_sub g ((ih _ (by simp; omega)).e g h.1.1) ((ih _ (by simp; omega)).e g h.1.2) h.2
  · simp only [Bool.and_eq_true] at h
    exact s_slc g ((ih _ (by simp; omega)).e g h.1.1) ((ih _ (by simp; omega)).p g h.1.2) ((ih _ (by simp; omega)).p g h.2)
  · simp only [Bool.and_eq_true, decide_eq_true_eq] at h
    obtain ⟨⟨⟨h1, h2⟩, h3⟩, h4⟩ := h
    obtain ⟨q1, q2⟩ := chks_cons h4
    exact s_call g h1 h2 h3 ((ih _ (by simp; omega)).es g h4) q1 q2
  · simp only [Bool.and_eq_true, decide_eq_true_eq, Bool.not_eq_true'] at h
    obtain ⟨⟨⟨⟨⟨⟨⟨⟨h1, h2⟩, hc⟩, hd⟩, h3⟩, h4⟩, h5⟩, h6⟩, h7⟩ := h
    exact s_callK g h1 h2 hc hd h3 h4 ((ih _ (by simp <;> omega)).e g h5) h6 (sk_of g _ _ (fun k hk => ih k (by simp at hk ⊢; omega)) h7)
  · simp only [Bool.and_eq_true, decide_eq_true_eq] at h
    obtain ⟨⟨h1, h2⟩, h4⟩ := h
    subst h1
    obtain ⟨q1, q2⟩ := chks_cons h4
    exact s_fn g h2 ((ih _ (by simp; omega)).es g h4) q1 q2
  · simp only [Bool.and_eq_true, decide_eq_true_eq, Bool.not_eq_true'] at h
    obtain ⟨⟨⟨⟨⟨h1, h2⟩, h3⟩, h4⟩, h5⟩, h6⟩ := h
    subst h1
    subst h5
    exact s_isi g h2 h6 ((ih _ (by simp; omega)).e g h3) h4
  · simp only [Bool.and_eq_true, decide_eq_true_eq] at h
    obtain ⟨⟨⟨h1, h2⟩, h3⟩, h4⟩ := h
    subst h2
    obtain ⟨q1, q2⟩ := chks_cons h3
    exact s_append g ((ih _ (by simp; omega)).e g h1) ((ih _ (by simp; omega)).es g h3) q1 h4
  · simp only [Bool.and_eq_true, decide_eq_true_eq] at h
    obtain ⟨⟨h1, h2⟩, h4⟩ := h
    subst h2
    exact s_pop g ((ih _ (by simp; omega)).e g h1) h4
  · simp only [Bool.and_eq_true] at h
    obtain ⟨⟨⟨⟨⟨h1, h2⟩, h3⟩, h4⟩, h5⟩, h6⟩ := h
    exact s_lc g ((ih _ (by simp; omega)).it g h2) (blkOk_by h1) (tgSub_mem h4) (fun s H C cl fp => sg g.blk h3) (fun s H C cl fp => (ih _ (by simp; omega)).ifs g.blk h5) (fun s H C cl fp => (ih _ (by simp; omega)).e g.blk h6) (fun x => fold_set h2 _ x)
  · simp only [Bool.and_eq_true, decide_eq_true_eq] at h
    obtain ⟨⟨⟨⟨⟨⟨⟨⟨⟨⟨⟨h1, h2⟩, h3⟩, h4⟩, h5⟩, h6⟩, h7⟩, h8⟩, h9⟩, h10⟩, h11⟩, h12⟩ := h
    subst h3
    subst h6
    obtain rfl := eq_of_beq h1
    have gp := gparts_of g (genOk_by h5) h9 (ih _ (by simp; omega)) (ih _ (by simp; omega)) h11 h12
    exact s_gen g h2 h4 (genOk_by h5) (tgLt_mem h10) gp ((ih _ (by simp; omega)).it g h7) (fun v => notSL_fold h8 _ v)
  · simp only [Bool.and_eq_true, decide_eq_true_eq] at h
    obtain ⟨⟨⟨⟨⟨⟨⟨h0, hl⟩, h1⟩, h2⟩, h3⟩, h4⟩, h5⟩, h6⟩ := h
    subst h0
    exact s_lenSet g hl ((ih _ (by simp; omega)).it g h2) (blkOk_by h1) (tgSub_mem h4) (fun s H C cl fp => sg g.blk h3) (fun s H C cl fp => (ih _ (by simp; omega)).ifs g.blk h5) (fun s H C cl fp => (ih _ (by simp; omega)).e g.blk h6) (fun x => fold_set h2 _ x)
  · simp only [Bool.and_eq_true, decide_eq_true_eq] at h
    obtain ⟨h1, h2⟩ := h
    subst h1
    exact s_rev g ((ih _ (by simp)).e g h2)
  · simp only [Bool.and_eq_true, decide_eq_true_eq] at h
    exact s_glb g h.1.1 h.1.2 h.2
  · simp only [Bool.and_eq_true, decide_eq_true_eq] at h
    obtain ⟨⟨⟨⟨h1, h2⟩, h3⟩, h4⟩, h5⟩ := h
    exact (s_inG g h1 h2 h3 h4 ((ih _ (by simp <;> omega)).e g h5)).1
  · simp only [Bool.and_eq_true, decide_eq_true_eq, Bool.not_eq_true'] at h
    obtain ⟨⟨⟨⟨h1, h2⟩, h3⟩, h4⟩, h5⟩ := h
    exact s_subG g h1 h2 h3 ((ih _ (by simp <;> omega)).e g h4) h5
  · simp only [Bool.and_eq_true, decide_eq_true_eq, Bool.not_eq_true'] at h
    obtain ⟨⟨⟨⟨h1, h2⟩, h3⟩, h4⟩, h5⟩ := h
    exact s_dsp h1 h2 (fun z => by rw [z] at h3; cases h3) h4 (each_chks g _ _ (fun k hk => ih k (by simp at hk ⊢; omega)) h5)
  · cases h
theorem snd_tr {m : E} (ih : ∀ k, sizeOf k < sizeOf m → Snd Γ Φ k) {X : Cx} {W : WX} {lv : Nat} {x : Expr} (g : G Γ Φ X W lv) (h : chk Γ.nm m lv X.N X.env.scope x = true) (hc : cmpB x = true) : PT X x (TTr Γ Φ W m) := by
  rw [chk.eq_def] at h
  split at h
  case h_7 =>
    simp only [Bool.and_eq_true, Bool.not_eq_true'] at h
    exact st_cmp g h.1.1.1 ((ih _ (by simp; omega)).e g h.1.1.2) ((ih _ (by simp; omega)).e g h.1.2) h.2
  case h_8 =>
    simp only [Bool.and_eq_true, Bool.not_eq_true'] at h
    exact st_chn g h.1.1.1.1.1 h.1.1.1.1.2 ((ih _ (by simp; omega)).e g h.1.1.1.2) ((ih _ (by simp; omega)).e g h.1.1.2) ((ih _ (by simp; omega)).e g h.1.2) h.2
  case h_26 =>
    simp only [Bool.and_eq_true, decide_eq_true_eq] at h
    obtain ⟨⟨⟨⟨h1, h2⟩, h3⟩, h4⟩, h5⟩ := h
    exact (s_inG g h1 h2 h3 h4 ((ih _ (by simp <;> omega)).e g h5)).2
  all_goals first | exact absurd h Bool.false_ne_true | (exfalso; exact absurd hc (by simp [cmpB]))
theorem TTAll_cons {W : WX} {a b : E} : (tAnd (TTt Γ Φ W a) (TTAll Γ Φ W b)) = (tAnd (TTt Γ Φ W a) (TTAll Γ Φ W b)) := rfl
theorem tAll_read {W : WX} {a b : E} {σ : L2.St} {H : Hp} {Q : Bool → Hp → Prop} (h : TTAll Γ Φ W (.cons a b) σ H Q) : tAnd (TTt Γ Φ W a) (TTAll Γ Φ W b) σ H Q := by
  obtain ⟨al, ρ, S, w, r, h⟩ := h
  refine TT_of w r (Post.bind h) fun k al' S' H' x w' r' q => ?_
  cases k with
  | true => rw [if_pos rfl]; rw [if_pos rfl] at q; exact ⟨al', ρ, S', w', r', q⟩
  | false => rw [if_neg Bool.false_ne_true]; rw [if_neg Bool.false_ne_true] at q; exact q.ok w'
theorem tAny_read {W : WX} {a b : E} {σ : L2.St} {H : Hp} {Q : Bool → Hp → Prop} (h : TTAny Γ Φ W (.cons a b) σ H Q) : tOr (TTt Γ Φ W a) (TTAny Γ Φ W b) σ H Q := by
  obtain ⟨al, ρ, S, w, r, h⟩ := h
  refine TT_of w r (Post.bind h) fun k al' S' H' x w' r' q => ?_
  cases k with
  | true => rw [if_pos rfl]; rw [if_pos rfl] at q; exact q.ok w'
  | false => rw [if_neg Bool.false_ne_true]; rw [if_neg Bool.false_ne_true] at q; exact ⟨al', ρ, S', w', r', q⟩
theorem tAll_one {W : WX} {a : E} {σ : L2.St} {H : Hp} {Q : Bool → Hp → Prop} (h : TTAll Γ Φ W (.cons a .nil) σ H Q) : TTt Γ Φ W a σ H Q := by
  obtain ⟨al, ρ, S, w, r, h⟩ := h
  refine TT_of w r (Post.bind h) fun k al' S' H' x w' r' q => ?_
  cases k with
  | true => rw [if_pos rfl] at q; exact Post.ok (b := true) w' q
  | false => rw [if_neg Bool.false_ne_true] at q; exact q.ok w'
theorem tAny_one {W : WX} {a : E} {σ : L2.St} {H : Hp} {Q : Bool → Hp → Prop} (h : TTAny Γ Φ W (.cons a .nil) σ H Q) : TTt Γ Φ W a σ H Q := by
  obtain ⟨al, ρ, S, w, r, h⟩ := h
  refine TT_of w r (Post.bind h) fun k al' S' H' x w' r' q => ?_
  cases k with
  | true => rw [if_pos rfl] at q; exact q.ok w'
  | false => rw [if_neg Bool.false_ne_true] at q; exact Post.ok (b := false) w' q
theorem evAnd_cons {a b : E} (hb : ∀ c, b = c → c ≠ .nil) (ρ : Env) (S : Store) : evAnd Φ (.cons a b) ρ S = (ev Φ a ρ S).bind fun x S => match x with | .bl true => evAnd Φ b ρ S | .bl false => .ok (.bl false) S | _ => .bad := by
  cases b <;> first | exact absurd rfl (hb _ rfl) | rfl
theorem evOr_cons {a b : E} (hb : ∀ c, b = c → c ≠ .nil) (ρ : Env) (S : Store) : evOr Φ (.cons a b) ρ S = (ev Φ a ρ S).bind fun x S => match x with | .bl false => evOr Φ b ρ S | .bl true => .ok (.bl true) S | _ => .bad := by
  cases b <;> first | exact absurd rfl (hb _ rfl) | rfl
theorem vAnd_read {W : WX} {a b : E} (hb : ∀ c, b = c → c ≠ .nil) {σ : L2.St} {H : Hp} {Q : VK} (h : TVa Γ Φ W (.cons a b) σ H Q) : tAndV (T Γ Φ W a) (TVa Γ Φ W b) σ H Q := by
  obtain ⟨al, ρ, S, w, r, h⟩ := h
  rw [evAnd_cons hb] at h
  refine T_of w r (Post.bind h) fun d al' S' H' v x w' r' rv q => ?_
  match d, rv, q with
  | .bl true, .bl _, q => exact ⟨true, rfl, by rw [if_pos rfl]; exact ⟨al', ρ, S', w', r', q⟩⟩
  | .bl false, .bl _, q => exact ⟨false, rfl, by rw [if_neg Bool.false_ne_true]; exact Post.val w' q (.bl _)⟩
theorem vOr_read {W : WX} {a b : E} (hb : ∀ c, b = c → c ≠ .nil) {σ : L2.St} {H : Hp} {Q : VK} (h : TVo Γ Φ W (.cons a b) σ H Q) : tOrV (T Γ Φ W a) (TVo Γ Φ W b) σ H Q := by
  obtain ⟨al, ρ, S, w, r, h⟩ := h
  rw [evOr_cons hb] at h
  refine T_of w r (Post.bind h) fun d al' S' H' v x w' r' rv q => ?_
  match d, rv, q with
  | .bl false, .bl _, q => exact ⟨false, rfl, by rw [if_neg Bool.false_ne_true]; exact ⟨al', ρ, S', w', r', q⟩⟩
  | .bl true, .bl _, q => exact ⟨true, rfl, by rw [if_pos rfl]; exact Post.val w' q (.bl _)⟩
theorem snd_m (m : E) (ih : ∀ k, sizeOf k < sizeOf m → Snd Γ Φ k) : Snd Γ Φ m where
  e := snd_e ih
  es {X W lv x} g h := by
    rw [chks.eq_def] at h
    split at h
    · exact sl_nil
    · simp only [Bool.and_eq_true, Bool.not_eq_true'] at h
      exact sl_cons ((ih _ (by simp <;> omega)).e g h.1.1) ((ih _ (by simp <;> omega)).es g h.2) h.1.2
    · cases h
  t {X W lv x} g h := by
    rw [chkT.eq_def] at h
    split at h
    · exact ((ih _ (by simp <;> omega)).ta g h).pt
    · exact ((ih _ (by simp <;> omega)).to g h).pt
    · exact (pt_not ((ih _ (by simp <;> omega)).t g h)).imp fun σ H Q ⟨al, ρ, S, w, r, h⟩ => TT_of w r (Post.bind h) fun k al' S' H' x w' r' q => q.ok w'
    · rw [Bool.and_eq_true, Bool.or_eq_true] at h
      rcases h.2 with hp | hp
      · exact (s_tr g ((ih _ (by simp <;> omega)).e g h.1) hp).imp fun σ H Q h => h
      · exact (snd_tr (fun k hk => ih k (by simp; omega)) g h.1 hp).imp fun σ H Q h => h
    · cases h
  ta {X W lv x pos} g h := by
    rw [chkTs.eq_def] at h
    split at h
    · exact (pw_and1 ((ih _ (by simp <;> omega)).t g h)).imp fun σ H Q h => tAll_one h
    · rw [Bool.and_eq_true] at h
      exact (pw_and ((ih _ (by simp <;> omega)).t g h.1) ((ih _ (by simp <;> omega)).ta g h.2)).imp fun σ H Q h => tAll_read h
    · cases h
  to {X W lv x pos} g h := by
    rw [chkTs.eq_def] at h
    split at h
    · exact (pw_or1 ((ih _ (by simp <;> omega)).t g h)).imp fun σ H Q h => tAny_one h
    · rw [Bool.and_eq_true] at h
      exact (pw_or ((ih _ (by simp <;> omega)).t g h.1) ((ih _ (by simp <;> omega)).to g h.2)).imp fun σ H Q h => tAny_read h
    · cases h
  ifs {X W lv x} g h := by
    rw [chkIfs.eq_def] at h
    split at h
    · exact ⟨fun pins s σ H Q I ⟨al, ρ, S, w, r, h⟩ => pts_nil.run pins s σ H Q I (Post.ok (b := true) w h)⟩
    · have q := pts_one ((ih _ (by simp <;> omega)).t g h)
      exact ⟨fun pins s σ H Q I h => q.run pins s σ H Q I (tAll_one h)⟩
    · cases h
  va {X W lv x pos} g h := by
    rw [chkVs.eq_def] at h
    split at h
    · exact (pe_one ((ih _ (by simp <;> omega)).e g h)).imp fun σ H Q h => h
    · rename_i hb
      rw [Bool.and_eq_true] at h
      refine (pe_and ((ih _ (by simp <;> omega)).e g h.1) ((ih _ (by simp <;> omega)).va g h.2)).imp fun σ H Q q => vAnd_read (fun c e z => ?_) q
      subst e; subst z
      have h2 := h.2
      rw [chkVs.eq_def] at h2
      cases h2
    · cases h
  vo {X W lv x pos} g h := by
    rw [chkVs.eq_def] at h
    split at h
    · exact (pe_one ((ih _ (by simp <;> omega)).e g h)).imp fun σ H Q h => h
    · rename_i hb
      rw [Bool.and_eq_true] at h
      refine (pe_or ((ih _ (by simp <;> omega)).e g h.1) ((ih _ (by simp <;> omega)).vo g h.2)).imp fun σ H Q q => vOr_read (fun c e z => ?_) q
      subst e; subst z
      have h2 := h.2
      rw [chkVs.eq_def] at h2
      cases h2
    · cases h
  p {X W lv x} g h := by
    rw [chkP.eq_def] at h
    split at h
    · exact sp_nil
    · exact sp_one ((ih _ (by simp <;> omega)).e g h)
    · cases h
  it {X W lv x tg} g h := by
    rw [chkIt.eq_def] at h
    split at h
    · rw [Bool.and_eq_true] at h
      exact si_seq g ((ih _ (by simp <;> omega)).e g h.1)
    · simp only [Bool.and_eq_true, Bool.not_eq_true', decide_eq_true_eq] at h
      obtain ⟨⟨⟨h1, h2⟩, h3⟩, h4⟩ := h
      subst h1
      exact si_rng1 g h2 ((ih _ (by simp <;> omega)).e g h3) h4
    · simp only [Bool.and_eq_true, Bool.not_eq_true', decide_eq_true_eq] at h
      obtain ⟨⟨⟨⟨⟨h1, h2⟩, h3⟩, h4⟩, h5⟩, h6⟩ := h
      subst h1
      exact si_rng2 g h2 ((ih _ (by simp <;> omega)).e g h3) ((ih _ (by simp <;> omega)).e g h4) h5 h6
    · cases h
/-- THE THEOREM about expressions -/
theorem snd (m : E) : Snd Γ Φ m := by
  have key : ∀ n, ∀ m : E, sizeOf m < n → Snd Γ Φ m := fun n => by
    induction n with
    | zero => exact fun m h => absurd h (Nat.not_lt_zero _)
    | succ n ih => exact fun m h => snd_m m fun k hk => ih k (by omega)
  exact key _ m (Nat.lt_succ_self _)
end
end Mi
set_option autoImplicit true
set_option Elab.async false
set_option linter.all false
set_option maxRecDepth 100000
set_option maxHeartbeats 4000000
/-! MiS1: statements. -/
namespace Mi
open PySem PySem.Spec PyProof.Rows L2
/-- what is wanted behind a statement -/
def KO (Γ : Gam) (D : Ends) : Out → List Addr → Store → Hp → Prop := fun o al _ H => ∀ σ, RE Γ.K al H o.2 σ → match o.1 with
  | .nx => D.nx σ H
  | .brk => D.bk σ H
  | .cnt => D.ct σ H
  | .ret d => ∀ v, RV Γ.K al H d v → D.rt v H
def TSx (Γ : Gam) (Φ : Orc) (E : XK) (m : Sx) : TS := fun D σ H => ∃ al ρ S, WI Γ.K Γ.T al S H ∧ RE Γ.K al H ρ σ ∧ Post Γ E al H (exec Φ m ρ S) (KO Γ D)
abbrev EW (E : XK) : WX := fun c d _ H => E c d H
/-- a context of statements -/
structure SG (Γ : Gam) (Φ : Orc) (X : Cx) (E : XK) (lv : Nat) : Prop where
  g : G Γ Φ X (EW E) lv
  fn : X.fn = fun _ => true
  ps : PassesOwn (model X.prog X.w) X.A X.env X.xe
  kind : X.env.scope.kind = .function
theorem _root_.L2.PS.imp {X : Cx} {st : Stmt} {t t' : TS} (h : PS X st t) (i : ∀ D σ H, t' D σ H → t D σ H) : PS X st t' := ⟨fun pins s σ H D I w => h.run pins s σ H D I (i _ _ _ w)⟩
theorem _root_.L2.PSs.imp {X : Cx} {st : List Stmt} {t t' : TS} (h : PSs X st t) (i : ∀ D σ H, t' D σ H → t D σ H) : PSs X st t' := ⟨fun pins s σ H D I w => h.run pins s σ H D I (i _ _ _ w)⟩
/-- does a comprehension swap with the store -/
def swOut (v : Expr) (x : Str) (p : Pos) (sc : Scope) : Bool := match v with
  | .ListComp _ _ s vp => (sc.names.lookup x == some .local) && (p.line == vp.line) && !(s.names.any fun (n, k) => n == x && (k == .local || k == .cell))
  | .SetComp _ _ s vp => (sc.names.lookup x == some .local) && (p.line == vp.line) && !(s.names.any fun (n, k) => n == x && (k == .local || k == .cell))
  | .DictComp _ _ _ s vp => (sc.names.lookup x == some .local) && (p.line == vp.line) && !(s.names.any fun (n, k) => n == x && (k == .local || k == .cell))
  | _ => false
theorem sw_eq {env : PySem.Env} (hk : env.scope.kind = .function) {v : Expr} {x : Str} {p : Pos} {l : Nat} : swapsWith v (some (.Name x p)) l env = pure (swOut v x p env.scope) := by
  have hb : env.blockKind = .function := by unfold Env.blockKind; rw [hk]; rfl
  cases v <;> first
    | rfl
    | (unfold swapsWith swOut
       simp only [hb, Expr.pos]
       rfl)
def compQ : Expr → Bool | .ListComp .. => true | .SetComp .. => true | .DictComp .. => true | _ => false
theorem sw_no {env : PySem.Env} {v : Expr} {t : Option Expr} {l : Nat} (h : compQ v = false) : swapsWith v t l env = pure false := by
  cases v <;> first | rfl | cases h
theorem sw1_no {env : PySem.Env} {t v : Expr} {l : Nat} (h : compQ v = false) : swapsWithSole [t] v l env = pure false := by
  show swapsWith v (some t) l env = _
  exact sw_no h
def tupQ : Expr → Bool | .Tuple .. => true | _ => false
theorem sws_no {env : PySem.Env} {t : Expr} {v : Expr} (h : tupQ v = false) : swappedStores [t] v env = pure none := by
  cases v <;> first | (cases t <;> rfl) | cases h
section
variable {Γ : Gam} {Φ : Orc} {X : Cx} {Ek : XK} {lv : Nat} {pos : Pos}
theorem ss_set {i : Nat} {x : Str} {e : Expr} {m : E} {p : Pos} (g : SG Γ Φ X Ek lv) (h1 : X.N[i]? = some x) (h2 : locB (fun _ => true) X.env.scope x = true) (he : PE X e (T Γ Φ (EW Ek) m)) (hs : swOut e x p X.env.scope = false) :
    PS X (.Assign [.Name x p] e pos) (TSx Γ Φ Ek (.set i m)) := by
  obtain ⟨l1, l2⟩ := locOf h2
  refine (ps_set g.g.nd h1 l1 he (by rw [sw_eq g.kind, hs]) (.inl (by rw [g.fn]))).imp fun D σ H ⟨al, ρ, S, w, r, h⟩ => ?_
  have h : Post Γ Ek al H ((ev Φ m ρ S).bind fun d S => .ok (.nx, ρ.set i (some d)) S) (KO Γ D) := h
  exact T_of w r (Post.bind h) fun d al' S' H' v x w' r' rv q => q.ok w' _ (r'.set rv i)
theorem ss_setLc {i : Nat} {x : Str} {p ep : Pos} {own : List Nat} {t : Tg} {it ifs elt : E} {el tg iter : Expr} {tests : List Expr} {scope : Scope} (g : SG Γ Φ X Ek lv) (h1 : X.N[i]? = some x) (hs : swOut (.ListComp el [⟨tg, iter, tests, 0⟩] scope ep) x p X.env.scope = true)
    (hi : PI X tg iter (TIt Γ Φ (EW Ek) it))
    (ok : BlkOk X.N X.env.scope scope (own.map fun i => (X.N.getD i "", i))) (hgs : ∀ j ∈ tgS t, j ∈ own)
    (hg : ∀ (s : Shared) (H : Hp) (C : Addr) (cl : List (Str × Addr)) (fp : List Addr), PG (X.blk s H scope (compEnvC scope cl C X.env) fp) tg (TGm Γ t))
    (ht : ∀ (s : Shared) (H : Hp) (C : Addr) (cl : List (Str × Addr)) (fp : List Addr), PTs (X.blk s H scope (compEnvC scope cl C X.env) fp) tests (TTAll Γ Φ WF ifs))
    (he : ∀ (s : Shared) (H : Hp) (C : Addr) (cl : List (Str × Addr)) (fp : List Addr), PE (X.blk s H scope (compEnvC scope cl C X.env) fp) el (T Γ Φ WF elt)) (hf : ∀ x, foldedSetIterable iter X.env x = pure x) :
    PS X (.Assign [.Name x p] (.ListComp el [⟨tg, iter, tests, 0⟩] scope ep) pos) (TSx Γ Φ Ek (.set i (.lc own t it ifs elt))) := by
  have hl : X.env.scope.names.lookup x = some .local := by
    have h : ((X.env.scope.names.lookup x == some NameKind.local) && (p.line == ep.line) && !(scope.names.any fun (n, k) => n == x && (k == .local || k == .cell))) = true := hs
    simp only [Bool.and_eq_true] at h
    exact eq_of_beq h.1.1
  refine (ps_setLc g.g.calm g.g.nd h1 hl (by rw [sw_eq g.kind, hs]) hi ok hg ht he hf).imp fun D σ H ⟨al, ρ, S, w, r, h⟩ => ?_
  have h : Post Γ Ek al H ((ev Φ (.lc own t it ifs elt) ρ S).bind fun d S => .ok (.nx, ρ.set i (some d)) S) (KO Γ D) := h
  have q : T Γ Φ (EW Ek) (.lc own t it ifs elt) σ H (fun x H1 => D.nx (σ.set i (some x)) H1) := T_of w r (Post.bind h) fun d al' S' H' v x w' r' rv q => q.ok w' _ (r'.set rv i)
  exact lc_read hgs q
/-- several names = a tuple, a list -/
theorem _root_.L2.PG.or {tg : Expr} {t t' : TG} (h : PG X tg t) (h' : PG X tg t') : PG X tg (fun v σ H Q => t v σ H Q ∨ t' v σ H Q) :=
  ⟨fun pins s σ H v u Q I r w => w.elim (h.run pins s σ H v u Q I r) (h'.run pins s σ H v u Q I r)⟩
theorem ss_unp {is : List Nat} {es : List Expr} {k : Nat} {e : Expr} {m : E} {p : Pos} (g : SG Γ Φ X Ek lv) (hb : tgB (fun _ => true) X.N X.env.scope (.tup is) (.Tuple es k p) = true) (he : PE X e (T Γ Φ (EW Ek) m)) (h1 : compQ e = false) (h2 : tupQ e = false) :
    PS X (.Assign [.Tuple es k p] e pos) (TSx Γ Φ Ek (.unp is m)) := by
  have hb : (es.length == is.length && (is.zip es).all fun p => match p.2 with | .Name x _ => decide (X.N[p.1]? = some x) && locB X.fn X.env.scope x | _ => false) = true := by rw [g.fn]; exact hb
  rw [Bool.and_eq_true] at hb
  obtain ⟨p1, p2, p3⟩ := pgs_names g.g (eq_of_beq hb.1) hb.2
  refine (ps_asg he ((pg_tup g.g.calm p1 p2 p3).or (pg_unl g.g.calm p1 p2 p3)) (sw1_no h1) (sws_no h2)).imp fun D σ H ⟨al, ρ, S, w, r, h⟩ => ?_
  have h : Post Γ Ek al H ((ev Φ m ρ S).bind fun d S => match seqOf S d with
    | some ds => (match setAll ρ is ds with | some ρ' => .ok (.nx, ρ') S | none => .bad)
    | none => .bad) (KO Γ D) := h
  refine T_of w r (Post.bind h) fun d al' S' H' v x w' r' rv q => ?_
  cases hq : seqOf S' d with
  | none => rw [hq] at q; exact q.elim
  | some ds =>
    rw [hq] at q
    have q : Post Γ Ek al' H' (match (if is.length = ds.length then some (setsD ρ is ds) else none) with | some ρ' => .ok (.nx, ρ') S' | none => .bad) (KO Γ D) := q
    by_cases hz : is.length = ds.length
    · rw [if_pos hz] at q
      cases d with
      | tup es =>
        cases hq
        cases rv with | tup h1 r1 =>
        exact .inl ⟨_, _, rfl, by rw [g.g.K]; exact h1, by rw [← r1.length, hz], by rw [← r1.length, hz], q.ok w' _ (r'.sets r1)⟩
      | ref n =>
        obtain ⟨a, vs, e1, e2, r1⟩ := w'.list hq
        cases rv with | ref e3 =>
        rw [e1] at e3; cases e3
        exact .inr ⟨_, _, rfl, by rw [g.g.K]; exact e2, by rw [← r1.length, hz], by rw [← r1.length, hz], q.ok w' _ (r'.sets r1)⟩
      | _ => cases hq
    · rw [if_neg hz] at q; exact q.elim

/-! ### a, b = x, y -/
theorem swapped2 {env : PySem.Env} {x y : Str} {px py : Pos} {a b : Expr} {k k2 : Nat} {pt pt2 : Pos} (hk : env.scope.kind = .function) (hx : env.scope.names.lookup x = some .local) (hy : env.scope.names.lookup y = some .local) (hl : (py.line == px.line) = true) (hxy : x ≠ y)
    (ha : starB a = false) (hb : starB b = false) (h7 : [a, b].all (foldedForSure 8) = false) (h8 : [a, b].all (constantsAlone 8) = false) :
    swappedStores [.Tuple [.Name x px, .Name y py] k pt] (.Tuple [a, b] k2 pt2) env = pure (some [x, y]) := by
  have hB : env.blockKind = .function := by unfold Env.blockKind; rw [hk]; rfl
  have kx : env.kindOf x = some .local := hx
  have ky : env.kindOf y = some .local := hy
  have hl : py.line = px.line := eq_of_beq hl
  have e1 : [x, y].eraseDups = [x, y] := by simp [List.eraseDups_cons, Ne.symm hxy]
  unfold swappedStores
  simp only [List.length_cons, List.length_nil, hB, List.any_cons, List.any_nil, List.filterMap_cons, List.filterMap_nil, kx, ky, List.head?_cons, Option.map_some, Option.getD_some, Expr.pos, hl, beq_self_eq_true, Bool.and_self, if_true, e1, h7, h8]
  show (if _ then _ else if (starB a || (starB b || false)) = true then _ else _) = _
  rw [ha, hb]
  rfl
theorem swapped3 {env : PySem.Env} {x y z : Str} {px py pz : Pos} {a b c : Expr} {k k2 : Nat} {pt pt2 : Pos} (hk : env.scope.kind = .function) (hx : env.scope.names.lookup x = some .local) (hy : env.scope.names.lookup y = some .local) (hz : env.scope.names.lookup z = some .local) (hl : (py.line == px.line) = true) (hl2 : (pz.line == px.line) = true) (hxy : x ≠ y) (hxz : x ≠ z) (hyz : y ≠ z)
    (ha : starB a = false) (hb : starB b = false) (hc : starB c = false) (h7 : [a, b, c].all (foldedForSure 8) = false) (h8 : [a, b, c].all (constantsAlone 8) = false) :
    swappedStores [.Tuple [.Name x px, .Name y py, .Name z pz] k pt] (.Tuple [a, b, c] k2 pt2) env = pure (some [x, y, z]) := by
  have hB : env.blockKind = .function := by unfold Env.blockKind; rw [hk]; rfl
  have kx : env.kindOf x = some .local := hx
  have ky : env.kindOf y = some .local := hy
  have kz : env.kindOf z = some .local := hz
  have hl : py.line = px.line := eq_of_beq hl
  have hl2 : pz.line = px.line := eq_of_beq hl2
  have e1 : [x, y, z].eraseDups = [x, y, z] := by simp [List.eraseDups_cons, Ne.symm hxy, Ne.symm hxz, Ne.symm hyz]
  unfold swappedStores
  simp only [List.length_cons, List.length_nil, hB, List.any_cons, List.any_nil, List.filterMap_cons, List.filterMap_nil, kx, ky, kz, List.head?_cons, Option.map_some, Option.getD_some, Expr.pos, hl, hl2, beq_self_eq_true, Bool.and_self, if_true, e1, h7, h8]
  show (if _ then _ else if (starB a || (starB b || (starB c || false))) = true then _ else _) = _
  rw [ha, hb, hc]
  rfl
def nmAt (N : List Str) (sc : Scope) (i : Nat) (x : Str) : Bool := decide (N[i]? = some x) && (sc.names.lookup x == some .local)
/-- a, b = x, y: stored from the right -/
def parB (N : List Str) (sc : Scope) : List Nat → Expr → Expr → Bool
  | [i, j], .Tuple [.Name x px, .Name y py] _ _, .Tuple [a, b] _ _ => nmAt N sc i x && nmAt N sc j y && (py.line == px.line) && decide (i ≠ j) && !starB a && !starB b && !([a, b].all (foldedForSure 8)) && !([a, b].all (constantsAlone 8))
  | [i, j, l], .Tuple [.Name x px, .Name y py, .Name z pz] _ _, .Tuple [a, b, c] _ _ => nmAt N sc i x && nmAt N sc j y && nmAt N sc l z && (py.line == px.line) && (pz.line == px.line) && decide (i ≠ j) && decide (i ≠ l) && decide (j ≠ l) && !starB a && !starB b && !starB c &&
    !([a, b, c].all (foldedForSure 8)) && !([a, b, c].all (constantsAlone 8))
  | _, _, _ => false
def tupEs : Expr → List Expr | .Tuple es _ _ => es | _ => []
theorem nodup_ne {N : List Str} (nd : N.Nodup) {i j : Nat} {x y : Str} (h1 : N[i]? = some x) (h2 : N[j]? = some y) (h : i ≠ j) : x ≠ y := fun e => by
  subst e
  obtain ⟨a, b⟩ := List.getElem?_eq_some_iff.mp h1
  obtain ⟨c, d⟩ := List.getElem?_eq_some_iff.mp h2
  exact h ((List.getElem_inj nd).mp (b.trans d.symm))
theorem par_read {is : List Nat} {m : E} {D : Ends} {σ : L2.St} {H : Hp} (h : TSx Γ Φ Ek (.par is m) D σ H) : TL Γ Φ (EW Ek) m σ H (fun vs H1 => vs.length = is.length ∧ D.nx (setsV σ is vs) H1) := by
  obtain ⟨al, ρ, S, w, r, h⟩ := h
  have h : Post Γ Ek al H ((evs Φ m ρ S).bind fun ds S => match setAll ρ is ds with
    | some ρ' => .ok (.nx, ρ') S
    | none => .bad) (KO Γ D) := h
  refine TL_of w r (Post.bind h) fun ds al' S' H' vs x w' r' rv q => ?_
  have q : Post Γ Ek al' H' (match (if is.length = ds.length then some (setsD ρ is ds) else none) with | some ρ' => .ok (.nx, ρ') S' | none => .bad) (KO Γ D) := q
  by_cases hz : is.length = ds.length
  · rw [if_pos hz] at q
    exact ⟨by rw [← rv.length, hz], q.ok w' _ (r'.sets rv)⟩
  · rw [if_neg hz] at q; exact q.elim
theorem TL.imp {m : E} {σ : L2.St} {H : Hp} {Q Q' : List V → Hp → Prop} (h : TL Γ Φ (EW Ek) m σ H Q) (i : ∀ vs H', Q vs H' → Q' vs H') : TL Γ Φ (EW Ek) m σ H Q' := by
  obtain ⟨al, ρ, S, w, r, h⟩ := h
  exact TL_of w r h fun ds al' S' H' vs x w' r' rv q => i _ _ (q _ rv)
theorem ss_par {is : List Nat} {tg e : Expr} {m : E} (g : SG Γ Φ X Ek lv) (hb : parB X.N X.env.scope is tg e = true) (he : PA X (tupEs e) (TL Γ Φ (EW Ek) m)) : PS X (.Assign [tg] e pos) (TSx Γ Φ Ek (.par is m)) := by
  unfold parB at hb
  split at hb
  · simp only [Bool.and_eq_true, Bool.not_eq_true', decide_eq_true_eq, nmAt, beq_iff_eq] at hb
    obtain ⟨⟨⟨⟨⟨⟨⟨⟨h1, h2⟩, h3, h4⟩, h5⟩, h6⟩, h7⟩, h8⟩, h9⟩, h10⟩ := hb
    refine (ps_par g.g.calm g.g.nd h1 h3 h6 h2 h4 he (swapped2 g.kind h2 h4 (by simp [h5]) (nodup_ne g.g.nd h1 h3 h6) h7 h8 h9 h10)).imp fun D σ H h => (par_read h).imp fun vs H' ⟨hl, q⟩ => ?_
    match vs, hl, q with
    | [v1, v2], _, q => exact ⟨v1, v2, rfl, q⟩
  · simp only [Bool.and_eq_true, Bool.not_eq_true', decide_eq_true_eq, nmAt, beq_iff_eq] at hb
    obtain ⟨⟨⟨⟨⟨⟨⟨⟨⟨⟨⟨⟨⟨h1, h2⟩, h3, h4⟩, h5, h6⟩, h7⟩, h8⟩, h9⟩, h10⟩, h11⟩, h12⟩, h13⟩, h14⟩, h15⟩, h16⟩ := hb
    refine (ps_par3 g.g.calm g.g.nd h1 h3 h5 h9 h10 h11 h2 h4 h6 he (swapped3 g.kind h2 h4 h6 (by simp [h7]) (by simp [h8]) (nodup_ne g.g.nd h1 h3 h9) (nodup_ne g.g.nd h1 h5 h10) (nodup_ne g.g.nd h3 h5 h11) h12 h13 h14 h15 h16)).imp fun D σ H h => (par_read h).imp fun vs H' ⟨hl, q⟩ => ?_
    match vs, hl, q with
    | [v1, v2, v3], _, q => exact ⟨v1, v2, v3, rfl, q⟩
  · cases hb
end
end Mi
set_option autoImplicit true
set_option Elab.async false
set_option linter.all false
set_option maxRecDepth 100000
set_option maxHeartbeats 4000000
/-! MiS2: more statements; loops. -/
namespace Mi
open PySem PySem.Spec PyProof.Rows L2
section
variable {Γ : Gam} {Φ : Orc} {X : Cx} {Ek : XK} {lv : Nat} {pos : Pos}
theorem TS_of {m : E} {σ : L2.St} {H : Hp} {Q : VK} {al : List Addr} {ρ : Env} {S : Store} (w : WI Γ.K Γ.T al S H) (r : RE Γ.K al H ρ σ) {k : D → List Addr → Store → Hp → Prop}
    (h : Post Γ Ek al H (ev Φ m ρ S) k) (i : ∀ d al' S' H' v, Ext al H al' H' → WI Γ.K Γ.T al' S' H' → RE Γ.K al' H' ρ σ → RV Γ.K al' H' d v → k d al' S' H' → Q v H') : T Γ Φ (EW Ek) m σ H Q := T_of (W := EW Ek) w r h i
theorem ss_sto {o i e : Expr} {mo mi me : E} {p : Pos} (g : SG Γ Φ X Ek lv) (ho : PE X o (T Γ Φ (EW Ek) mo)) (hi : PE X i (T Γ Φ (EW Ek) mi)) (he : PE X e (T Γ Φ (EW Ek) me)) (h1 : compQ e = false) (h2 : tupQ e = false) (hsl : sliceB i = false) :
    PS X (.Assign [.Subscript o i p] e pos) (TSx Γ Φ Ek (.sto mo mi me)) := by
  refine (ps_asg he (pg_sub ho hi set_list (fun v => by cases i <;> first | rfl | cases hsl)) (sw1_no h1) (sws_no h2)).imp fun D σ H ⟨al, ρ, S, w, r, h⟩ => ?_
  have h : Post Γ Ek al H ((ev Φ me ρ S).bind fun d S => (ev Φ mo ρ S).bind fun x S => (ev Φ mi ρ S).bind fun y S => (stoD x y d S).bind fun _ S => .ok (.nx, ρ) S) (KO Γ D) := h
  refine TS_of w r (Post.bind h) fun d al1 S1 H1 v x1 w1 r1 rv q1 => ?_
  refine TS_of w1 r1 (Post.bind q1) fun dx al2 S2 H2 vx x2 w2 r2 rx q2 => ?_
  refine TS_of w2 r2 (Post.bind q2) fun dy al3 S3 H3 vy x3 w3 r3 ry q3 => ?_
  have rv3 := (rv.ext w1 x2).ext w2 x3
  have rx3 := rx.ext w2 x3
  cases dx with
  | ref n =>
    cases dy with
    | int k =>
      cases ry
      have q3 : Post Γ Ek al3 H3 ((match S3[n]? with
        | some (.lst xs) => (match L2.ixN xs.length k with
          | some j => Res.ok () (S3.set n (.lst (xs.set j d)))
          | none => .bad)
        | _ => .bad).bind fun _ S => .ok (.nx, ρ) S) (KO Γ D) := q3
      cases e : S3[n]? with
      | none => rw [e] at q3; exact q3.elim
      | some ob =>
        rw [e] at q3
        cases ob with
        | lst xs =>
          obtain ⟨a, e1, vs, z, q⟩ := w3.get e
          cases rx3 with | ref e2 =>
          rw [e1] at e2; cases e2
          cases ej : L2.ixN xs.length k with
          | none => simp only [ej] at q3; exact q3.elim
          | some j =>
            simp only [ej] at q3
            refine ⟨_, vs, k, j, rfl, rfl, z, by rw [← q.length]; exact ej, ?_⟩
            have hT : ∀ b ys, SqT Γ.K H3 b ys → SqT Γ.K (upd H3 _ (.lst (vs.set j v))) b ys := fun _ _ z => sqT_put w3 e1 z
            have hr : RVs Γ.K al3 (upd H3 _ (.lst (vs.set j v))) (xs.set j d) (vs.set j v) := (q.mono hT (List.prefix_refl _)).set (rv3.mono hT (List.prefix_refl _)) j
            exact q3 al3 _ (.put e1) (w3.put e1 ⟨_, upd_same, hr⟩) _ (r3.ext w3 (.put e1))
        | _ => exact q3.elim
    | _ => exact q3.elim
  | _ => cases dy <;> exact q3.elim
theorem ss_aug {i : Nat} {x : Str} {e : Expr} {m : E} {p : Pos} {o : Bo} {op : Operator} (g : SG Γ Φ X Ek lv) (h1 : X.N[i]? = some x) (h2 : locB (fun _ => true) X.env.scope x = true) (he : PE X e (T Γ Φ (EW Ek) m)) (ho : (o = .add ∧ op = .Add) ∨ (o = .sub ∧ op = .Sub)) :
    PS X (.AugAssign (.Name x p) op e pos) (TSx Γ Φ Ek (.aug i o m)) := by
  obtain ⟨l1, l2⟩ := locOf h2
  have key : ∀ (f : Int → Int → Int), PIp X op (ipI f) → (∀ (ρ : Env) (S : Store), exec Φ (.aug i o m) ρ S = match ρ[i]? with
    | some (some (.int a)) => (ev Φ m ρ S).bind fun d S => match d with
      | .int b => .ok (.nx, ρ.set i (some (.int (f a b)))) S
      | _ => .bad
    | _ => .bad) → PS X (.AugAssign (.Name x p) op e pos) (TSx Γ Φ Ek (.aug i o m)) := fun f hp hq => by
    refine (ps_aug g.g.nd h1 l1 he hp (.inl (by rw [g.fn]))).imp fun D σ H ⟨al, ρ, S, w, r, h⟩ => ?_
    rw [hq] at h
    split at h
    · rename_i a ea
      obtain ⟨v, e1, rv⟩ := r.at_ i _ ea
      cases rv
      refine ⟨.int a, e1, TS_of w r (Post.bind h) fun d al' S' H' v x w' r' rv q => ?_⟩
      cases d with
      | int b => cases rv; exact ⟨a, b, rfl, rfl, q.ok w' _ (r'.set (.int _) i)⟩
      | _ => exact q.elim
    · exact h.elim
  rcases ho with ⟨rfl, rfl⟩ | ⟨rfl, rfl⟩
  · refine key (fun a b => a + b) ip_add fun ρ S => ?_
    show (match ρ[i]? with | some (some (.int a)) => _ | _ => _) = _
    split
    · congr 1; funext d S; cases d <;> rfl
    · rfl
  · refine key (fun a b => a - b) ip_sub fun ρ S => ?_
    show (match ρ[i]? with | some (some (.int a)) => _ | _ => _) = _
    split
    · congr 1; funext d S; cases d <;> rfl
    · rfl
theorem ss_if {c : Expr} {a b : List Stmt} {mc : E} {ma mb : Sx} (hc : PT X c (TTt Γ Φ (EW Ek) mc)) (ha : PSs X a (TSx Γ Φ Ek ma)) (hb : PSs X b (TSx Γ Φ Ek mb)) : PS X (.If c a b pos) (TSx Γ Φ Ek (.iff mc ma mb)) := by
  refine (ps_if hc ha hb).imp fun D σ H ⟨al, ρ, S, w, r, h⟩ => ?_
  have h : Post Γ Ek al H ((evT Φ mc ρ S).bind fun k S => if k = true then exec Φ ma ρ S else exec Φ mb ρ S) (KO Γ D) := h
  refine TT_of (W := EW Ek) w r (Post.bind h) fun k al' S' H' x w' r' q => ?_
  cases k with
  | true => rw [if_pos rfl]; rw [if_pos rfl] at q; exact ⟨al', ρ, S', w', r', q⟩
  | false => rw [if_neg Bool.false_ne_true]; rw [if_neg Bool.false_ne_true] at q; exact ⟨al', ρ, S', w', r', q⟩
theorem ss_ret {e : Expr} {m : E} (he : PE X e (T Γ Φ (EW Ek) m)) : PS X (.Return (some e) pos) (TSx Γ Φ Ek (.ret m)) := by
  refine (ps_ret he).imp fun D σ H ⟨al, ρ, S, w, r, h⟩ => ?_
  have h : Post Γ Ek al H ((ev Φ m ρ S).bind fun d S => .ok (.ret d, ρ) S) (KO Γ D) := h
  exact TS_of w r (Post.bind h) fun d al' S' H' v x w' r' rv q => q.ok w' _ r' v rv
theorem ss_retN : PS X (.Return none pos) (TSx Γ Φ Ek .retN) := ps_retN.imp fun D σ H ⟨al, ρ, S, w, r, h⟩ => Post.ok (b := (Fl.ret .non, ρ)) w h _ r .non .non
theorem ss_exp {e : Expr} {m : E} (he : PE X e (T Γ Φ (EW Ek) m)) (h1 : compQ e = false) : PS X (.Expr e pos) (TSx Γ Φ Ek (.exp m)) := by
  refine (ps_expr he (sw_no h1)).imp fun D σ H ⟨al, ρ, S, w, r, h⟩ => ?_
  have h : Post Γ Ek al H ((ev Φ m ρ S).bind fun d S => .ok (.nx, ρ) S) (KO Γ D) := h
  exact TS_of w r (Post.bind h) fun d al' S' H' v x w' r' rv q => q.ok w' _ r'
theorem ss_brk : PS X (.Break pos) (TSx Γ Φ Ek .brk) := ps_break.imp fun D σ H ⟨al, ρ, S, w, r, h⟩ => Post.ok (b := (Fl.brk, ρ)) w h _ r
theorem ss_cnt : PS X (.Continue pos) (TSx Γ Φ Ek .cnt) := ps_continue.imp fun D σ H ⟨al, ρ, S, w, r, h⟩ => Post.ok (b := (Fl.cnt, ρ)) w h _ r
theorem ss_pass : PS X (.Pass pos) (TSx Γ Φ Ek .pass) := ps_pass.imp fun D σ H ⟨al, ρ, S, w, r, h⟩ => Post.ok (b := (Fl.nx, ρ)) w h _ r
theorem ss_doc {x : Str} {j : Nat} {p : Pos} : PS X (.Expr (.Constant (.str x) j p) pos) (TSx Γ Φ Ek .pass) := ps_doc.imp fun D σ H ⟨al, ρ, S, w, r, h⟩ => Post.ok (b := (Fl.nx, ρ)) w h _ r
theorem ss_nev {st : Stmt} : PS X st (TSx Γ Φ Ek .nev) := ps_never.imp fun D σ H ⟨al, ρ, S, w, r, h⟩ => h
theorem ssb_nil : PSs X [] (TSx Γ Φ Ek .nil) := pss_nil.imp fun D σ H ⟨al, ρ, S, w, r, h⟩ => Post.ok (b := (Fl.nx, ρ)) w h _ r
theorem seq_read {a b : Sx} {D : Ends} {σ : L2.St} {H : Hp} (h : TSx Γ Φ Ek (.cons a b) D σ H) : tSeq (TSx Γ Φ Ek a) (TSx Γ Φ Ek b) D σ H := by
  obtain ⟨al, ρ, S, w, r, h⟩ := h
  refine ⟨al, ρ, S, w, r, ?_⟩
  have h : Post Γ Ek al H (match exec Φ a ρ S with
    | .ok (.nx, ρ') S' => exec Φ b ρ' S'
    | r => r) (KO Γ D) := h
  cases e : exec Φ a ρ S with
  | ok o S' =>
    rw [e] at h
    obtain ⟨f, ρ'⟩ := o
    cases f with
    | nx => exact fun al' H' x w' σ' r' => ⟨al', ρ', S', w', r', h.move x⟩
    | brk => exact fun al' H' x w' σ' r' => h al' H' x w' σ' r'
    | cnt => exact fun al' H' x w' σ' r' => h al' H' x w' σ' r'
    | ret d => exact fun al' H' x w' σ' r' => h al' H' x w' σ' r'
  | ex c v S' => rw [e] at h; exact h
  | bad => rw [e] at h; exact h
theorem ssb_cons {st : Stmt} {sts : List Stmt} {a b : Sx} (ha : PS X st (TSx Γ Φ Ek a)) (hb : PSs X sts (TSx Γ Φ Ek b)) : PSs X (st :: sts) (TSx Γ Φ Ek (.cons a b)) := (pss_cons ha hb).imp fun D σ H h => seq_read h
theorem ssb_nev {sts : List Stmt} : PSs X sts (TSx Γ Φ Ek .nev) := pss_never.imp fun D σ H ⟨al, ρ, S, w, r, h⟩ => h
/-! ### loops -/
theorem ss_whl {c : Expr} {body : List Stmt} {mc : E} {mb : Sx} (g : SG Γ Φ X Ek lv) (hc : PT X c (TTt Γ Φ (EW Ek) mc)) (hb : PSs X body (TSx Γ Φ Ek mb)) : PS X (.While c body [] pos) (TSx Γ Φ Ek (.whl mc mb)) := by
  refine (ps_while g.ps hc hb).imp fun D σ H ⟨al, ρ, S, w, r, h⟩ => ?_
  have h : Post Γ Ek al H (whlC (evT Φ mc) (exec Φ mb) ρ S) (KO Γ D) := h
  refine ⟨fun m σ H => ∃ al ρ S, WI Γ.K Γ.T al S H ∧ RE Γ.K al H ρ σ ∧ Post Γ Ek al H (whlF (evT Φ mc) (exec Φ mb) m ρ S) (KO Γ D), ?_, ?_⟩
  · unfold whlC at h
    split at h
    · exact ⟨_, al, ρ, S, w, r, h⟩
    · exact h.elim
  · rintro m σ H ⟨al, ρ, S, w, r, h⟩
    cases m with
    | zero => exact h.elim
    | succ n =>
      have h : Post Γ Ek al H ((evT Φ mc ρ S).bind fun k S => if k = true then
        (match exec Φ mb ρ S with
        | .ok (.nx, ρ') S' => whlF (evT Φ mc) (exec Φ mb) n ρ' S'
        | .ok (.cnt, ρ') S' => whlF (evT Φ mc) (exec Φ mb) n ρ' S'
        | .ok (.brk, ρ') S' => .ok (.nx, ρ') S'
        | .ok (.ret d, ρ') S' => .ok (.ret d, ρ') S'
        | .ex c v S' => .ex c v S'
        | .bad => .bad) else .ok (.nx, ρ) S) (KO Γ D) := h
      refine TT_of (W := EW Ek) w r (Post.bind h) fun k al1 S1 H1 x1 w1 r1 q => ?_
      cases k with
      | false => rw [if_neg Bool.false_ne_true]; rw [if_neg Bool.false_ne_true] at q; exact q.ok w1 _ r1
      | true =>
        rw [if_pos rfl]; rw [if_pos rfl] at q
        refine ⟨fun σ' H' => ∃ al ρ S, WI Γ.K Γ.T al S H' ∧ RE Γ.K al H' ρ σ' ∧ Post Γ Ek al H' (whlF (evT Φ mc) (exec Φ mb) n ρ S) (KO Γ D), fun σ' H' z => ⟨n, Nat.lt_succ_self _, z⟩, al1, ρ, S1, w1, r1, ?_⟩
        cases e : exec Φ mb ρ S1 with
        | ok o S' =>
          rw [e] at q
          obtain ⟨f, ρ'⟩ := o
          cases f with
          | nx => exact fun al' H' x w' σ' r' => ⟨al', ρ', S', w', r', q.move x⟩
          | cnt => exact fun al' H' x w' σ' r' => ⟨al', ρ', S', w', r', q.move x⟩
          | brk => exact fun al' H' x w' σ' r' => q al' H' x w' σ' r'
          | ret d => exact fun al' H' x w' σ' r' => q al' H' x w' σ' r'
        | ex c v S' => rw [e] at q; exact q
        | bad => rw [e] at q; exact q
theorem ss_for {iter tg : Expr} {body : List Stmt} {t : Tg} {mi : E} {mb : Sx} (g : SG Γ Φ X Ek lv) (hi : PI X tg iter (TIt Γ Φ (EW Ek) mi)) (hg : PG X tg (TGm Γ t)) (hb : PSs X body (TSx Γ Φ Ek mb)) (hs : ∀ x, foldedSetIterable iter X.env x = pure x) :
    PS X (.For tg iter body [] pos) (TSx Γ Φ Ek (.forr t mi mb)) := by
  refine (ps_for g.ps g.g.calm hi hg hb hs).imp fun D σ H ⟨al, ρ, S, w, r, h⟩ => ?_
  generalize hbd : (fun (x : Mi.D) (ρ : Env) (S : Store) => match asg t x ρ with
    | some ρ' => exec Φ mb ρ' S
    | none => .bad) = bd
  have h : Post Γ Ek al H ((evIt Φ mi ρ S).bind fun its S => forEv its.1 bd its.2 ρ S) (KO Γ D) := by rw [← hbd]; exact h
  refine TIt_of (W := EW Ek) w r (Post.bind h) fun its al1 S1 H1 J x1 w1 r1 hJ q1 => ?_
  refine ⟨fun i m σ H => m = its.2.length - i ∧ i ≤ its.2.length ∧ ∃ al ρ S, Ext al1 H1 al H ∧ WI Γ.K Γ.T al S H ∧ RE Γ.K al H ρ σ ∧ Post Γ Ek al H (forEv its.1 bd (its.2.drop i) ρ S) (KO Γ D), ⟨its.2.length, by simp, Nat.zero_le _, al1, ρ, S1, .refl, w1, r1, by simpa using q1⟩, ?_⟩
  rintro i m σ2 H2 ⟨rfl, hi, al2, ρ2, S2, x2, w2, r2, q2⟩
  have iw := hJ al2 S2 H2 x2 w2
  by_cases hlt : i < its.2.length
  · obtain ⟨x, hx⟩ : ∃ x, its.2[i]? = some x := ⟨_, List.getElem?_eq_getElem hlt⟩
    have hd : its.2.drop i = x :: its.2.drop (i + 1) := by
      rw [List.drop_eq_getElem_cons hlt]
      rw [List.getElem?_eq_getElem hlt] at hx
      cases hx; rfl
    rw [hd, forEv] at q2
    by_cases hstill : still its.1 S2
    · rw [if_pos hstill] at q2
      obtain ⟨hgo, _⟩ := iw hstill
      obtain ⟨go, hy⟩ := hgo i x hx
      refine .inr ⟨go, fun σ' H' => ∃ al ρ S, Ext al1 H1 al H' ∧ WI Γ.K Γ.T al S H' ∧ RE Γ.K al H' ρ σ' ∧ Post Γ Ek al H' (forEv its.1 bd (its.2.drop (i + 1)) ρ S) (KO Γ D),
        fun σ' H' nx => ⟨its.2.length - (i + 1), by omega, rfl, by omega, nx⟩, fun v H3 y => ?_⟩
      obtain ⟨x3, w3, rv⟩ := hy v H3 y
      have q3 := q2.move x3
      have r3 := r2.ext w2 x3
      cases ea : asg t x ρ2 with
      | none =>
        rw [← hbd] at q3
        simp only [ea] at q3
        exact q3.elim
      | some ρ' =>
        have eb : bd x ρ2 S2 = exec Φ mb ρ' S2 := by rw [← hbd]; simp only [ea]
        rw [eb] at q3
        refine ⟨al2, x, ρ2, ρ', r3, rv, ea, fun σ' r' hl hj => ⟨al2, ρ', S2, w3, r', ?_⟩⟩
        have xx := x2.trans x3
        cases e : exec Φ mb ρ' S2 with
        | ok o S' =>
          rw [e] at q3
          obtain ⟨f, ρ3⟩ := o
          cases f with
          | nx => exact fun al' H' x' w' σ' r' => ⟨al', ρ3, S', xx.trans x', w', r', q3.move x'⟩
          | cnt => exact fun al' H' x' w' σ' r' => ⟨al', ρ3, S', xx.trans x', w', r', q3.move x'⟩
          | brk => exact fun al' H' x' w' σ' r' => q3 al' H' x' w' σ' r'
          | ret d => exact fun al' H' x' w' σ' r' => q3 al' H' x' w' σ' r'
        | ex c v S' => rw [e] at q3; exact q3
        | bad => rw [e] at q3; exact q3
    · rw [if_neg hstill] at q2; exact q2.elim
  · have e : i = its.2.length := by omega
    subst e
    rw [List.drop_length, forEv] at q2
    by_cases hstill : still its.1 S2
    · rw [if_pos hstill] at q2
      exact .inl ⟨(iw hstill).2, q2.ok w2 _ r2⟩
    · rw [if_neg hstill] at q2; exact q2.elim
end
end Mi
set_option autoImplicit true
set_option Elab.async false
set_option linter.all false
set_option maxRecDepth 100000
set_option maxHeartbeats 4000000
/-! MiS3: which statements a term stands for (chkS), and that they mean what the term does. -/
namespace Mi
open PySem PySem.Spec PyProof.Rows L2
def lcQ : E → Expr → Bool
  | .lc .., .ListComp _ [⟨_, _, _, 0⟩] _ _ => true
  | _, _ => false
def augB : Bo → Operator → Bool
  | .add, .Add => true
  | .sub, .Sub => true
  | _, _ => false
section
variable (nm : List (Str × List Str)) (lv : Nat) (N : List Str) (sc : Scope)
mutual
def chkS : Sx → Stmt → Bool
  | .set i m, .Assign [.Name x p] e _ => decide (N[i]? = some x) && locB (fun _ => true) sc x && chk nm m lv N sc e && (!(swOut e x p sc) || lcQ m e)
  | .unp is m, .Assign [.Tuple es k p] e _ => tgB (fun _ => true) N sc (.tup is) (.Tuple es k p) && chk nm m lv N sc e && !compQ e && !tupQ e
  | .par is m, .Assign [tg] e _ => parB N sc is tg e && chks nm m lv N sc (tupEs e)
  | .sto mo mi me, .Assign [.Subscript o i _] e _ => chk nm mo lv N sc o && chk nm mi lv N sc i && chk nm me lv N sc e && !compQ e && !tupQ e && !sliceB i
  | .aug i o m, .AugAssign (.Name x _) op e _ => decide (N[i]? = some x) && locB (fun _ => true) sc x && chk nm m lv N sc e && augB o op
  | .iff c a b, .If t xs ys _ => chkT nm c lv N sc t && chkB a xs && chkB b ys
  | .whl c b, .While t xs [] _ => chkT nm c lv N sc t && chkB b xs
  | .forr t it b, .For tg iter xs [] _ => chkIt nm it lv N sc iter && tgB (fun _ => true) N sc t tg && chkB b xs
  | .ret m, .Return (some e) _ => chk nm m lv N sc e
  | .retN, .Return none _ => true
  | .exp m, .Expr e _ => chk nm m lv N sc e && !compQ e
  | .brk, .Break _ => true
  | .cnt, .Continue _ => true
  | .pass, .Pass _ => true
  | .pass, .Expr (.Constant (.str _) _ _) _ => true
  | .nev, _ => true
  | _, _ => false
def chkB : Sx → List Stmt → Bool
  | .nil, [] => true
  | .cons a b, st :: sts => chkS a st && chkB b sts
  | .nev, _ => true
  | _, _ => false
end
end
section
variable {Γ : Gam} {Φ : Orc} {X : Cx} {Ek : XK} {lv : Nat}
structure SndS (Γ : Gam) (Φ : Orc) (X : Cx) (Ek : XK) (lv : Nat) (m : Sx) : Prop where
  s : ∀ {x : Stmt}, chkS Γ.nm lv X.N X.env.scope m x = true → PS X x (TSx Γ Φ Ek m)
  b : ∀ {x : List Stmt}, chkB Γ.nm lv X.N X.env.scope m x = true → PSs X x (TSx Γ Φ Ek m)
theorem augB_or {o : Bo} {op : Operator} (h : augB o op = true) : (o = .add ∧ op = .Add) ∨ (o = .sub ∧ op = .Sub) := by
  cases o <;> cases op <;> first | exact .inl ⟨rfl, rfl⟩ | exact .inr ⟨rfl, rfl⟩ | cases h
theorem snd_set {i : Nat} {m : E} {x : Str} {p pos : Pos} {e : Expr} (g : SG Γ Φ X Ek lv) (h1 : X.N[i]? = some x) (h2 : locB (fun _ => true) X.env.scope x = true) (h3 : chk Γ.nm m lv X.N X.env.scope e = true) (h4 : (!(swOut e x p X.env.scope) || lcQ m e) = true) :
    PS X (.Assign [.Name x p] e pos) (TSx Γ Φ Ek (.set i m)) := by
  cases hs : swOut e x p X.env.scope with
  | false => exact ss_set g h1 h2 ((snd m).e g.g h3) hs
  | true =>
    rw [hs] at h4
    have h4 : lcQ m e = true := h4
    unfold lcQ at h4
    split at h4
    · rw [chk] at h3
      simp only [Bool.and_eq_true] at h3
      obtain ⟨⟨⟨⟨⟨k1, k2⟩, k3⟩, k4⟩, k5⟩, k6⟩ := h3
      exact ss_setLc g h1 hs ((snd _).it g.g k2) (blkOk_by k1) (tgSub_mem k4) (fun s H C cl fp => sg g.g.blk k3) (fun s H C cl fp => (snd _).ifs g.g.blk k5) (fun s H C cl fp => (snd _).e g.g.blk k6) (fun x => fold_set k2 _ x)
    · cases h4
theorem sndS_m (g : SG Γ Φ X Ek lv) (m : Sx) (ih : ∀ k, sizeOf k < sizeOf m → SndS Γ Φ X Ek lv k) : SndS Γ Φ X Ek lv m where
  s {x} h := by
    rw [chkS.eq_def] at h
    split at h
    · simp only [Bool.and_eq_true, decide_eq_true_eq] at h
      exact snd_set g h.1.1.1 h.1.1.2 h.1.2 h.2
    · simp only [Bool.and_eq_true, Bool.not_eq_true'] at h
      exact ss_unp g h.1.1.1 ((snd _).e g.g h.1.1.2) h.1.2 h.2
    · simp only [Bool.and_eq_true] at h
      exact ss_par g h.1 ((snd _).es g.g h.2)
    · simp only [Bool.and_eq_true, Bool.not_eq_true'] at h
      obtain ⟨⟨⟨⟨⟨h1, h2⟩, h3⟩, h4⟩, h5⟩, h6⟩ := h
      exact ss_sto g ((snd _).e g.g h1) ((snd _).e g.g h2) ((snd _).e g.g h3) h4 h5 h6
    · simp only [Bool.and_eq_true, decide_eq_true_eq] at h
      exact ss_aug g h.1.1.1 h.1.1.2 ((snd _).e g.g h.1.2) (augB_or h.2)
    · simp only [Bool.and_eq_true] at h
      exact ss_if ((snd _).t g.g h.1.1) ((ih _ (by simp <;> omega)).b h.1.2) ((ih _ (by simp <;> omega)).b h.2)
    · simp only [Bool.and_eq_true] at h
      exact ss_whl g ((snd _).t g.g h.1) ((ih _ (by simp <;> omega)).b h.2)
    · simp only [Bool.and_eq_true] at h
      exact ss_for g ((snd _).it g.g h.1.1) (sg g.g (by rw [g.fn]; exact h.1.2)) ((ih _ (by simp <;> omega)).b h.2) (fun x => fold_set h.1.1 _ x)
    · exact ss_ret ((snd _).e g.g h)
    · exact ss_retN
    · simp only [Bool.and_eq_true, Bool.not_eq_true'] at h
      exact ss_exp ((snd _).e g.g h.1) h.2
    · exact ss_brk
    · exact ss_cnt
    · exact ss_pass
    · exact ss_doc
    · exact ss_nev
    · cases h
  b {x} h := by
    rw [chkB.eq_def] at h
    split at h
    · exact ssb_nil
    · simp only [Bool.and_eq_true] at h
      exact ssb_cons ((ih _ (by simp <;> omega)).s h.1) ((ih _ (by simp <;> omega)).b h.2)
    · exact ssb_nev
    · cases h
/-- THE THEOREM about statements -/
theorem sndS (g : SG Γ Φ X Ek lv) (m : Sx) : SndS Γ Φ X Ek lv m := by
  have key : ∀ n, ∀ m : Sx, sizeOf m < n → SndS Γ Φ X Ek lv m := fun n => by
    induction n with
    | zero => exact fun m h => absurd h (Nat.not_lt_zero _)
    | succ n ih => exact fun m h => sndS_m g m fun k hk => ih k (by omega)
  exact key _ m (Nat.lt_succ_self _)
end
end Mi
set_option autoImplicit true
set_option Elab.async false
set_option linter.all false
set_option maxRecDepth 100000
set_option maxHeartbeats 4000000
/-! MiD0: binding of plain parameters. -/
namespace Mi
open PySem PySem.Spec PyProof.Rows L2
theorem zip_lookup : ∀ {ps : List Str} {us : List Value} (nd : ps.Nodup) (hl : us.length = ps.length), (ps.filterMap fun n => ((ps.zip us).lookup n).map (n, ·)) = ps.zip us ∧ (ps.filter fun n => ((ps.zip us).lookup n).isNone) = []
  | [], [], _, _ => ⟨rfl, rfl⟩
  | p :: ps, u :: us, nd, hl => by
    obtain ⟨h1, h2⟩ := zip_lookup (ps := ps) (us := us) (List.nodup_cons.mp nd).2 (by simpa using hl)
    have hp : ∀ n ∈ ps, ((p :: ps).zip (u :: us)).lookup n = (ps.zip us).lookup n := fun n hn => by
      have e : (n == p) = false := by
        cases q : n == p with
        | false => rfl
        | true => rw [eq_of_beq q] at hn; exact absurd hn (List.nodup_cons.mp nd).1
      show (match n == p with | true => some u | false => (ps.zip us).lookup n) = _
      rw [e]
    have hq : ((p :: ps).zip (u :: us)).lookup p = some u := by
      show (match p == p with | true => some u | false => (ps.zip us).lookup p) = _
      rw [beq_self_eq_true]
    refine ⟨?_, ?_⟩
    · rw [List.filterMap_cons, hq]
      show (p, u) :: _ = (p, u) :: ps.zip us
      have key : ∀ l : List Str, (∀ n ∈ l, n ∈ ps) → (l.filterMap fun n => (((p :: ps).zip (u :: us)).lookup n).map (n, ·)) = l.filterMap fun n => ((ps.zip us).lookup n).map (n, ·) := fun l => by
        induction l with
        | nil => exact fun _ => rfl
        | cons n l ih =>
          intro hm
          rw [List.filterMap_cons, List.filterMap_cons, hp n (hm n List.mem_cons_self), ih fun k hk => hm k (List.mem_cons_of_mem _ hk)]
      rw [key ps fun _ h => h, h1]
    · rw [List.filter_cons, hq]
      show List.filter _ ps = []
      rw [← h2]
      refine List.filter_congr fun n hn => ?_
      rw [hp n hn]
def plainA (a : Arguments) (ps : List Str) : Bool := a.posonlyargs.isEmpty && a.kwonlyargs.isEmpty && a.vararg.isNone && a.kwarg.isNone && decide (a.args.map (·.arg) = ps) && decide ps.Nodup
theorem bind_plain {a : Arguments} {ps : List Str} (h : plainA a ps = true) {x qual : Str} {body : List Stmt} {scope : Scope} {kV doc pm : Value} {an : Option Addr} {cdv ct : Value} {us : List Value} (hl : us.length = ps.length) :
    bindArgs (PySem.W.fnOf x qual a body scope .none kV doc pm an cdv ct) ⟨us, []⟩ = pure (ps.zip us) := by
  obtain ⟨po, ar, va, ko, kd, kw, df⟩ := a
  unfold plainA at h
  simp only [Bool.and_eq_true, decide_eq_true_eq, List.isEmpty_iff, Option.isNone_iff_eq_none] at h
  obtain ⟨⟨⟨⟨⟨rfl, rfl⟩, rfl⟩, rfl⟩, h5⟩, h6⟩ := h
  obtain ⟨e1, e2⟩ := zip_lookup h6 hl
  have hg : ¬ us.length > ps.length := by omega
  unfold bindArgs
  simp only [PySem.W.fnOf, List.map_nil, List.nil_append, h5, seqItems?, pure_bind, Option.getD_none, List.forIn_nil, List.length_nil, hg, Option.isNone_none, Bool.and_true, decide_false, Bool.false_eq_true, if_false, Nat.sub_zero, List.drop_nil, List.zip_nil_right, List.take_length, e2, List.isEmpty_nil, Bool.not_true, List.append_nil, e1]
  have e0 : (do notAStandIn Value.none; pure (none : Option (Array Value))) = (pure none : Sem (Option (Array Value))) := rfl
  rw [e0]
  simp only [pure_bind, Option.getD_none, List.length_nil, Nat.sub_zero, List.drop_nil, List.zip_nil_right, List.take_length, e2, List.isEmpty_nil, Bool.not_true, Bool.false_eq_true, if_false, List.forIn_nil, e1]
end Mi
set_option autoImplicit true
set_option Elab.async false
set_option linter.all false
set_option maxRecDepth 100000
set_option maxHeartbeats 4000000
/-! MiP: plain laws of the small language: loops whose steps change nothing, the table. -/
namespace Mi
open PySem PySem.Spec PyProof.Rows L2
section
variable {tab : List Fn} {gd : List Gv}
theorem F_def {n i : Nat} {f : Fn} (e : tab[i]? = some f) (ds : List D) (S : Store) : F tab gd (n + 1) i ds S = runFn (F tab gd n) f ds S := by
  show (match tab[i]? with | some f => runFn (F tab gd n) f ds S | none => _) = _
  rw [e]
theorem F_look {n i : Nat} (h : tab.length ≤ i) (ds : List D) (S : Store) : F tab gd n i ds S = gLook tab gd i ds S := by
  cases n with
  | zero => show (if i < tab.length then _ else _) = _; rw [if_neg (by omega)]
  | succ n =>
    show (match tab[i]? with | some f => runFn (F tab gd n) f ds S | none => _) = _
    rw [List.getElem?_eq_none h]
theorem F_lt {i : Nat} {f : Fn} (e : tab[i]? = some f) (ds : List D) (S : Store) : F tab gd 0 i ds S = .bad := by
  show (if i < tab.length then _ else _) = _
  rw [if_pos (List.getElem?_eq_some_iff.mp e).1]
end
theorem quant_all {g : Option (Nat × List D)} {step : D → M (Option D)} {p : D → Bool} {S : Store} (hs : still g S) : ∀ {xs : List D}, (∀ x ∈ xs, step x S = .ok (some (.bl (p x))) S) → quant false g step xs S = .ok (.bl (xs.all p)) S
  | [], _ => by rw [quant, if_pos hs]; rfl
  | x :: xs, h => by
    rw [quant, if_pos hs, h x List.mem_cons_self]
    show (if p x = false then _ else _) = _
    cases e : p x with
    | false => rw [if_pos rfl, List.all_cons, e]; rfl
    | true => rw [if_neg (by decide), quant_all hs fun y hy => h y (List.mem_cons_of_mem _ hy), List.all_cons, e]; rfl
theorem quant_any {g : Option (Nat × List D)} {step : D → M (Option D)} {p : D → Bool} {S : Store} (hs : still g S) : ∀ {xs : List D}, (∀ x ∈ xs, step x S = .ok (some (.bl (p x))) S) → quant true g step xs S = .ok (.bl (xs.any p)) S
  | [], _ => by rw [quant, if_pos hs]; rfl
  | x :: xs, h => by
    rw [quant, if_pos hs, h x List.mem_cons_self]
    show (if p x = true then _ else _) = _
    cases e : p x with
    | true => rw [if_pos rfl, List.any_cons, e]; rfl
    | false => rw [if_neg (by decide), quant_any hs fun y hy => h y (List.mem_cons_of_mem _ hy), List.any_cons, e]; rfl
theorem comp_map {g : Option (Nat × List D)} {step : D → M (Option D)} {f : D → D} {S : Store} (hs : still g S) : ∀ {xs acc : List D}, acc.length + xs.length ≤ sizeLine → (∀ x ∈ xs, step x S = .ok (some (f x)) S) → comp g step xs acc S = .ok (acc ++ xs.map f) S
  | [], acc, _, _ => by rw [comp, if_pos hs]; simp
  | x :: xs, acc, hl, h => by
    rw [comp, if_pos hs, h x List.mem_cons_self]
    show (if acc.length < sizeLine then _ else _) = _
    simp only [List.length_cons] at hl
    rw [if_pos (by omega), comp_map hs (by simp; omega) fun y hy => h y (List.mem_cons_of_mem _ hy)]
    simp
theorem comp_filter {g : Option (Nat × List D)} {step : D → M (Option D)} {p : D → Bool} {f : D → D} {S : Store} (hs : still g S) : ∀ {xs acc : List D}, acc.length + xs.length ≤ sizeLine → (∀ x ∈ xs, step x S = .ok (if p x then some (f x) else none) S) → comp g step xs acc S = .ok (acc ++ (xs.filter p).map f) S
  | [], acc, _, _ => by rw [comp, if_pos hs]; simp
  | x :: xs, acc, hl, h => by
    simp only [List.length_cons] at hl
    rw [comp, if_pos hs, h x List.mem_cons_self]
    cases e : p x with
    | true =>
      show (if acc.length < sizeLine then _ else _) = _
      rw [if_pos (by omega), comp_filter hs (by simp; omega) fun y hy => h y (List.mem_cons_of_mem _ hy)]
      simp [e]
    | false =>
      show comp g step xs acc S = _
      rw [comp_filter hs (by omega) fun y hy => h y (List.mem_cons_of_mem _ hy)]
      simp [e]
/-! ### comprehensions, generators -/
noncomputable def gstep (Φ : Orc) (ρ : Env) (g : Tg) (ifs elt : E) (x : D) (S : Store) : Res (Option D) := match asg g x ρ with
  | some ρ' => (evAll Φ ifs ρ' S).bind fun b S => if b = true then (ev Φ elt ρ' S).bind fun y S => .ok (some y) S else .ok none S
  | none => .bad
abbrev gEnv (ρ : Env) (no : Nat) (caps : List Nat) : Env := List.replicate no none ++ caps.map fun i => (ρ[i]?).join
section
variable {Φ : Orc} {ρ : Env} {S S1 : Store} {it ifs elt : E} {g : Tg} {no : Nat} {caps own : List Nat} {gi : Option (Nat × List D)} {xs : List D}
theorem ev_gall {p : D → Bool} (h : evIt Φ it ρ S = .ok (gi, xs) S1) (hs : still gi S1) (hp : ∀ x ∈ xs, gstep Φ (gEnv ρ no caps) g ifs elt x S1 = .ok (some (.bl (p x))) S1) : ev Φ (.gen .all no caps g it ifs elt) ρ S = .ok (.bl (xs.all p)) S1 := by
  show (evIt Φ it ρ S).bind (fun its S => quant false its.1 (gstep Φ (gEnv ρ no caps) g ifs elt) its.2 S) = _
  rw [h]
  exact quant_all hs hp
theorem ev_gany {p : D → Bool} (h : evIt Φ it ρ S = .ok (gi, xs) S1) (hs : still gi S1) (hp : ∀ x ∈ xs, gstep Φ (gEnv ρ no caps) g ifs elt x S1 = .ok (some (.bl (p x))) S1) : ev Φ (.gen .any no caps g it ifs elt) ρ S = .ok (.bl (xs.any p)) S1 := by
  show (evIt Φ it ρ S).bind (fun its S => quant true its.1 (gstep Φ (gEnv ρ no caps) g ifs elt) its.2 S) = _
  rw [h]
  exact quant_any hs hp
theorem ev_gtup {f : D → D} (h : evIt Φ it ρ S = .ok (gi, xs) S1) (hs : still gi S1) (hl : xs.length ≤ sizeLine) (hp : ∀ x ∈ xs, gstep Φ (gEnv ρ no caps) g ifs elt x S1 = .ok (some (f x)) S1) : ev Φ (.gen .tup no caps g it ifs elt) ρ S = .ok (.tup (xs.map f)) S1 := by
  show (evIt Φ it ρ S).bind (fun its S => (comp its.1 (gstep Φ (gEnv ρ no caps) g ifs elt) its.2 [] S).bind fun acc S => Res.ok (D.tup acc) S) = _
  rw [h]
  show (comp gi (gstep Φ (gEnv ρ no caps) g ifs elt) xs [] S1).bind _ = _
  rw [comp_map hs (by simpa using hl) hp]
  rfl
theorem ev_gsorted {f : D → D} (h : evIt Φ it ρ S = .ok (gi, xs) S1) (hs : still gi S1) (hl : xs.length ≤ sizeLine) (hp : ∀ x ∈ xs, gstep Φ (gEnv ρ no caps) g ifs elt x S1 = .ok (some (f x)) S1) : ev Φ (.gen .sorted no caps g it ifs elt) ρ S = sortR (xs.map f) S1 := by
  show (evIt Φ it ρ S).bind (fun its S => (comp its.1 (gstep Φ (gEnv ρ no caps) g ifs elt) its.2 [] S).bind fun acc S => sortR acc S) = _
  rw [h]
  show (comp gi (gstep Φ (gEnv ρ no caps) g ifs elt) xs [] S1).bind _ = _
  rw [comp_map hs (by simpa using hl) hp]
  rfl
theorem ev_lcm {f : D → D} (h : evIt Φ it ρ S = .ok (gi, xs) S1) (hs : still gi S1) (hl : xs.length ≤ sizeLine) (hp : ∀ x ∈ xs, gstep Φ (wipeE ρ own) g ifs elt x S1 = .ok (some (f x)) S1) : ev Φ (.lc own g it ifs elt) ρ S = .ok (.ref S1.length) (S1 ++ [.lst (xs.map f)]) := by
  show (evIt Φ it ρ S).bind (fun its S => (comp its.1 (gstep Φ (wipeE ρ own) g ifs elt) its.2 [] S).bind fun acc S => Res.ok (D.ref S.length) (S ++ [Ob.lst acc])) = _
  rw [h]
  show (comp gi (gstep Φ (wipeE ρ own) g ifs elt) xs [] S1).bind _ = _
  rw [comp_map hs (by simpa using hl) hp]
  rfl
theorem ev_lcf {p : D → Bool} {f : D → D} (h : evIt Φ it ρ S = .ok (gi, xs) S1) (hs : still gi S1) (hl : xs.length ≤ sizeLine) (hp : ∀ x ∈ xs, gstep Φ (wipeE ρ own) g ifs elt x S1 = .ok (if p x then some (f x) else none) S1) : ev Φ (.lc own g it ifs elt) ρ S = .ok (.ref S1.length) (S1 ++ [.lst ((xs.filter p).map f)]) := by
  show (evIt Φ it ρ S).bind (fun its S => (comp its.1 (gstep Φ (wipeE ρ own) g ifs elt) its.2 [] S).bind fun acc S => Res.ok (D.ref S.length) (S ++ [Ob.lst acc])) = _
  rw [h]
  show (comp gi (gstep Φ (wipeE ρ own) g ifs elt) xs [] S1).bind _ = _
  rw [comp_filter hs (by simpa using hl) hp]
  rfl
theorem ev_lenm {f : D → D} {ks : List L2.Key} (h : evIt Φ it ρ S = .ok (gi, xs) S1) (hs : still gi S1) (hl : xs.length ≤ sizeLine) (hp : ∀ x ∈ xs, gstep Φ (wipeE ρ own) g ifs elt x S1 = .ok (some (f x)) S1) (hk : dKeys (xs.map f) = some ks) (hn : ks.length < 1000) : ev Φ (.lenSet own g it ifs elt) ρ S = .ok (.int (nub ks).length) S1 := by
  show (evIt Φ it ρ S).bind (fun its S => (comp its.1 (gstep Φ (wipeE ρ own) g ifs elt) its.2 [] S).bind fun acc S => match dKeys acc with
        | some ks => if ks.length < 1000 then Res.ok (D.int (nub ks).length) S else .bad
        | none => .bad) = _
  rw [h]
  show (comp gi (gstep Φ (wipeE ρ own) g ifs elt) xs [] S1).bind _ = _
  rw [comp_map hs (by simpa using hl) hp]
  show (match dKeys ([] ++ xs.map f) with | some ks => if ks.length < 1000 then Res.ok (D.int (nub ks).length) S1 else .bad | none => .bad) = _
  rw [List.nil_append, hk]
  show (if ks.length < 1000 then _ else _) = _
  rw [if_pos hn]
end
/-! ### for loops -/
theorem for_inv {g : Option (Nat × List D)} {body : D → Env → M Out} (I : Nat → Env → Store → Prop) : ∀ {xs : List D} {k : Nat} {ρ : Env} {S : Store}, (∀ i x ρ S, xs[i]? = some x → I (k + i) ρ S → still g S ∧ ∃ ρ' S', body x ρ S = .ok (.nx, ρ') S' ∧ I (k + i + 1) ρ' S') → (∀ ρ S, I (k + xs.length) ρ S → still g S) → I k ρ S →
    ∃ ρ' S', forEv g body xs ρ S = .ok (.nx, ρ') S' ∧ I (k + xs.length) ρ' S'
  | [], k, ρ, S, _, hs, h => ⟨ρ, S, by rw [forEv, if_pos (hs ρ S (by simpa using h))], by simpa using h⟩
  | x :: xs, k, ρ, S, hb, hs, h => by
    obtain ⟨h1, ρ', S', h2, h3⟩ := hb 0 x ρ S rfl (by simpa using h)
    obtain ⟨ρ2, S2, h4, h5⟩ := for_inv I (xs := xs) (k := k + 1) (ρ := ρ') (S := S') (fun i y ρ S hy hi => by
      have := hb (i + 1) y ρ S (by simpa using hy) (by rw [show k + (i + 1) = k + 1 + i by omega]; exact hi)
      rw [show k + (i + 1) + 1 = k + 1 + i + 1 by omega] at this
      exact this) (fun ρ S hi => hs ρ S (by rw [List.length_cons, show k + (xs.length + 1) = k + 1 + xs.length by omega]; exact hi)) (by simpa using h3)
    refine ⟨ρ2, S2, ?_, by rw [List.length_cons, show k + (xs.length + 1) = k + 1 + xs.length by omega]; exact h5⟩
    rw [forEv, if_pos h1, h2]
    exact h4
theorem exec_for {Φ : Orc} {t : Tg} {it : E} {b : Sx} {ρ : Env} {S S1 : Store} {g : Option (Nat × List D)} {xs : List D} (I : Nat → Env → Store → Prop) (hi : evIt Φ it ρ S = .ok (g, xs) S1)
    (hb : ∀ i x ρ S, xs[i]? = some x → I i ρ S → still g S ∧ ∃ ρ1 ρ' S', asg t x ρ = some ρ1 ∧ exec Φ b ρ1 S = .ok (.nx, ρ') S' ∧ I (i + 1) ρ' S') (hs : ∀ ρ S, I xs.length ρ S → still g S) (h0 : I 0 ρ S1) :
    ∃ ρ' S', exec Φ (.forr t it b) ρ S = .ok (.nx, ρ') S' ∧ I xs.length ρ' S' := by
  show ∃ ρ' S', (evIt Φ it ρ S).bind (fun its S => forEv its.1 (fun x ρ S => match asg t x ρ with
    | some ρ' => exec Φ b ρ' S
    | none => .bad) its.2 ρ S) = .ok (.nx, ρ') S' ∧ I xs.length ρ' S'
  rw [hi]
  have := for_inv (g := g) (body := fun x ρ S => match asg t x ρ with
    | some ρ' => exec Φ b ρ' S
    | none => .bad) I (xs := xs) (k := 0) (ρ := ρ) (S := S1) (fun i x ρ S hx h => by
      rw [Nat.zero_add] at h ⊢
      obtain ⟨h1, ρ1, ρ', S', h2, h3, h4⟩ := hb i x ρ S hx h
      exact ⟨h1, ρ', S', by rw [h2]; exact h3, h4⟩) (fun ρ S h => hs ρ S (by rw [Nat.zero_add] at h; exact h)) h0
  rw [Nat.zero_add] at this
  exact this
theorem rng1_ok {n : Nat} (h : n < 2 ^ 62) : rng1 (.int n) = some ((List.range n).map fun (i : Nat) => D.int (i : Int)) := by
  unfold rng1
  dsimp only
  rw [if_pos ⟨by omega, by omega⟩, Int.toNat_natCast]
theorem exec_set {Φ : Orc} {i : Nat} {e : E} {ρ : Env} {S : Store} : exec Φ (.set i e) ρ S = (ev Φ e ρ S).bind fun d S => .ok (.nx, ρ.set i (some d)) S := rfl
/-! ### what stays in the store -/
/-- all objects but r's stay -/
structure Kp (r : Option Nat) (S S' : Store) : Prop where
  len : S.length ≤ S'.length
  at_ : ∀ n, n < S.length → some n ≠ r → S'[n]? = S[n]?
theorem Kp.refl (r : Option Nat) (S : Store) : Kp r S S := ⟨Nat.le_refl _, fun _ _ _ => rfl⟩
theorem Kp.trans {r : Option Nat} {S S' S'' : Store} (h : Kp r S S') (h' : Kp r S' S'') : Kp r S S'' := ⟨Nat.le_trans h.len h'.len, fun n hn hr => (h'.at_ n (Nat.lt_of_lt_of_le hn h.len) hr).trans (h.at_ n hn hr)⟩
theorem Kp.weak {r : Option Nat} {S S' : Store} (h : Kp none S S') : Kp r S S' := ⟨h.len, fun n hn _ => h.at_ n hn (by simp)⟩
theorem Kp.set {r : Nat} {S : Store} {o : Ob} : Kp (some r) S (S.set r o) := ⟨by simp, fun n _ hr => List.getElem?_set_ne (fun e => hr (by rw [e]))⟩
theorem Kp.app {r : Option Nat} {S X : Store} : Kp r S (S ++ X) := ⟨by simp, fun n hn _ => List.getElem?_append_left hn⟩
theorem Kp.get {r : Option Nat} {S S' : Store} (h : Kp r S S') {n : Nat} {o : Ob} (e : S[n]? = some o) (hr : some n ≠ r) : S'[n]? = some o := (h.at_ n (List.getElem?_eq_some_iff.mp e).1 hr).trans e
/-- an object of one's own changes too -/
theorem Kp.own {r : Option Nat} {S S' : Store} (h : Kp r S S') {n : Nat} (hn : S.length ≤ n) {o : Ob} : Kp r S (S'.set n o) := ⟨by simp [h.len], fun m hm hr => by rw [List.getElem?_set_ne (by omega)]; exact h.at_ m hm hr⟩
def IsRow (S : Store) (r : Nat) : Prop := ∃ is : List Int, S[r]? = some (.lst (is.map D.int)) ∧ is.length ≤ 1000
theorem IsRow.keep {q : Option Nat} {S S' : Store} {r : Nat} (h : IsRow S r) (k : Kp q S S') (hr : some r ≠ q) : IsRow S' r := let ⟨is, e, hl⟩ := h; ⟨is, k.get e hr, hl⟩
/-! ### arithmetic -/
theorem bin_add (x y : Int) (S : Store) : binD .add (.int x) (.int y) S = .ok (.int (x + y)) S := rfl
theorem bin_sub (x y : Int) (S : Store) : binD .sub (.int x) (.int y) S = .ok (.int (x - y)) S := rfl
theorem bin_mul {x y : Int} (S : Store) (h : big64 y = true) : binD .mul (.int x) (.int y) S = .ok (.int (x * y)) S := by
  show (if big64 x || big64 y then Res.ok (D.int (x * y)) S else .bad) = _
  rw [h, Bool.or_true, if_pos rfl]
theorem bin_mod {x y : Int} (S : Store) (h : 0 < y) : binD .mod (.int x) (.int y) S = .ok (.int (x % y)) S := by
  show (if 0 < y then Res.ok (D.int (x % y)) S else .bad) = _
  rw [if_pos h]
theorem bin_fdiv {x y : Int} (S : Store) (h : 0 < y ∧ y < 1073741824) : binD .fdiv (.int x) (.int y) S = .ok (.int (x / y)) S := by
  show (if 0 < y ∧ y < 1073741824 then Res.ok (D.int (x / y)) S else .bad) = _
  rw [if_pos h]
theorem it_rng1 {Φ : Orc} {a : E} {ρ : Env} {S S1 : Store} {n : Nat} (h : ev Φ a ρ S = .ok (.int (n : Int)) S1) (hn : n < 2 ^ 62) : evIt Φ (.itRng1 a) ρ S = .ok (none, (List.range n).map fun (i : Nat) => D.int (i : Int)) S1 := by
  show ((ev Φ a ρ S).bind fun x S => ofO ((rng1 x).map fun xs => (none, xs)) S) = _
  rw [h, Res.bind_ok, rng1_ok hn]
  rfl
end Mi
set_option autoImplicit true
set_option Elab.async false
set_option linter.all false
set_option maxRecDepth 100000
set_option maxHeartbeats 4000000
/-! MiD1: defs. -/
namespace Mi
open PySem PySem.Spec PyProof.Rows L2
def blts : List Str := ["len", "int", "list", "tuple", "sum", "abs", "isinstance", "bool", "str", "range", "all", "any", "sorted", "min", "max", "zip", "enumerate"]
/-- a def of the text: what the check asks -/
structure Dd where
  params : Arguments
  body : List Stmt
  scope : Scope
  N : List Str
  ps : List Str
def ddB (nm : List (Str × List Str)) (f : Fn) (d : Dd) : Bool :=
  C8.scC d.N d.ps d.scope && (f.np == d.ps.length) && (f.nn == d.N.length) && chkB nm 1 d.N d.scope f.body d.body
/-- a def as it stands behind the top -/
structure DefAt (Γ : Gam) (mg : Str → Option Value) (base : Heap) (f : Fn) (x : Str) (ks : List Str) (d : Dd) : Prop where
  chk : ddB Γ.nm f d = true
  ex : ∃ (fa : Addr) (fd : FuncData) (dvs : List V) (kws : List (Str × V)), FunD Γ.K x x d.params d.body d.scope dvs kws fa fd ∧ mg x = some (.ref fa) ∧ CalB Γ.K fd d.ps ks ∧ ∃ c P, fd.code = .ref c ∧ GxR.TabB base mg c P ∧ P ∈ Γ.T
section
variable {Γ : Gam} {P : Program} {w : World} {mg : Str → Option Value} {base : Heap} {tab : List Fn} {dds : List Dd} {gd : List Gv}
theorem start_RE {K : PySem.W.Frag} {al : List Addr} {H : Hp} {ds : List D} {vs : List V} {N : List Str} {nn np : Nat} (r : RVs K al H ds vs) (h1 : nn = N.length) (h2 : np = ds.length) : RE K al H (ds.map some ++ List.replicate (nn - np) none) (L2.start N vs) := by
  subst h1 h2
  have hl := r.length
  refine ⟨by simp [L2.start, hl], fun i d h => ?_⟩
  by_cases hi : i < ds.length
  · rw [List.getElem?_append_left (by simpa using hi), List.getElem?_map] at h
    cases e : ds[i]? with
    | none => rw [e] at h; cases h
    | some d' =>
      rw [e] at h
      have h : some d' = some d := Option.some.inj h
      cases h
      obtain ⟨v, e2, rv⟩ := r.get e
      refine ⟨v, ?_, rv⟩
      show (vs.map some ++ _)[i]? = _
      rw [List.getElem?_append_left (by simp; omega), List.getElem?_map, e2]
      rfl
  · rw [List.getElem?_append_right (by simp; omega), List.getElem?_replicate] at h
    split at h <;> cases h
theorem run_post {E : XK} {al : List Addr} {H : Hp} {S : Store} {Φ : Orc} {f : Fn} {ds : List D} {Q : VK} (h : Post Γ E al H (runFn Φ f ds S) (KV' Γ Q)) : ds.length = f.np ∧ Post Γ E al H (exec Φ f.body (ds.map some ++ List.replicate (f.nn - f.np) none) S) (KO Γ { nx := fun _ H' => Q .non H', rt := Q }) := by
  unfold runFn at h
  by_cases hl : ds.length = f.np
  · rw [if_pos hl] at h
    refine ⟨hl, ?_⟩
    cases e : exec Φ f.body (ds.map some ++ List.replicate (f.nn - f.np) none) S with
    | ok o S' =>
      rw [e] at h
      obtain ⟨fl, ρ'⟩ := o
      cases fl with
      | nx => exact fun al' H' x w' σ' r' => h al' H' x w' _ .non
      | ret d => exact fun al' H' x w' σ' r' => h al' H' x w'
      | brk => exact h.elim
      | cnt => exact h.elim
    | ex c v S' => rw [e] at h; exact h
    | bad => rw [e] at h; exact h
  · rw [if_neg hl] at h; exact h.elim
theorem look {K : PySem.W.Frag} {x qual : Str} {params : Arguments} {body : List Stmt} {scope : Scope} {dvs : List V} {kws : List (Str × V)} {fa : Addr} {fd : FuncData} (F : FunD K x qual params body scope dvs kws fa fd) : ∃ oc od osl, K.lookup fa = some ⟨oc, od, .func fd, osl⟩ := by
  obtain ⟨oc, od, dV, kV, doc, pm, an, cdv, ct, osl, rfl, lk, _⟩ := F.ex
  exact ⟨oc, od, osl, lk⟩
/-- the module's constants stand -/
structure ConAt (Γ : Gam) (w : World) (mg : Str → Option Value) (tab : List Fn) (gd : List Gv) : Prop where
  con : ∀ (i : Nat) (x : Str), Γ.nm[i]? = some (x, conM) → tab.length ≤ i ∧ ∃ u v d, mg x = some u ∧ RelV v u ∧ gd[i - tab.length]? = some (.con d) ∧ ∀ al H, RV Γ.K al H d v
  dic : ∀ (i : Nat) (x : Str), Γ.nm[i]? = some (x, dicM) → tab.length ≤ i ∧ ∃ da es n kv, mg x = some (.ref da) ∧ KDict Γ.K w da es n ∧ gd[i - tab.length]? = some (.dic kv) ∧ ∀ z r, kv.lookup z = some r → ∃ u v, PySem.W.nsIn Γ.K da z = some (some u) ∧ RelV v u ∧ ∀ al H, RV Γ.K al H r v
/-- all defs keep their promises -/
theorem defs_ok (tb : ∀ x ∈ blts, mg x = none) (hcn : ConAt Γ w mg tab gd) (hd : ∀ (i : Nat) (x : Str) (ks : List Str), Γ.nm[i]? = some (x, ks) → ks ≠ conM → ks ≠ dicM → ∃ f d, tab[i]? = some f ∧ dds[i]? = some d ∧ DefAt Γ mg base f x ks d) :
    ∀ (n i : Nat) (x : Str) (ks : List Str), Γ.nm[i]? = some (x, ks) → ks ≠ conM → ks ≠ dicM → ∃ (f : Fn) (d : Dd) (fa : Addr) (fd : FuncData), tab[i]? = some f ∧ dds[i]? = some d ∧ f.np = d.ps.length ∧ (∀ ds S, ds.length ≠ f.np → F tab gd n i ds S = .bad) ∧ FnOk P w Γ.K mg base (L2.CX P w) (9 * n) fa fd d.ps (Sp' Γ (F tab gd n) f.np i) ∧ mg x = some (.ref fa) ∧ PySem.W.keepIn Γ.K (.ref fa) = true ∧ CalB Γ.K fd d.ps ks ∧ ∃ oc od osl, Γ.K.lookup fa = some ⟨oc, od, .func fd, osl⟩ := by
  intro n
  induction n with
  | zero =>
    intro i x ks hx hc1 hc2
    obtain ⟨f, d, e, edd, da⟩ := hd i x ks hx hc1 hc2
    obtain ⟨fa, fd, dvs, kws, FD, hm, hb, _⟩ := da.ex
    have hc := da.chk
    unfold ddB at hc
    simp only [Bool.and_eq_true, beq_iff_eq] at hc
    refine ⟨f, d, fa, fd, e, edd, hc.1.1.2, fun ds S _ => F_lt e ds S, ⟨fun vs H Q E h => by rw [← hc.1.1.2]; exact h.1, fun A outer s H args us vs Q E hr he hb' hv hs => ?_⟩, hm, FD.kp, hb, look FD⟩
    obtain ⟨_, al, S, ds, _, _, h⟩ := hs
    rw [F_lt e] at h
    exact h.elim
  | succ n ih =>
    intro i x ks hx hc1 hc2
    obtain ⟨f, d, e, edd, da⟩ := hd i x ks hx hc1 hc2
    obtain ⟨fa, fd, dvs, kws, FD, hm, hb, c, Pt, hcode, hT, hPt⟩ := da.ex
    have hc := da.chk
    unfold ddB at hc
    simp only [Bool.and_eq_true, beq_iff_eq] at hc
    obtain ⟨⟨⟨h1, h2⟩, h3⟩, h4⟩ := hc
    have S := C8.fnScope_by h1
    have eF : ∀ ds St, F tab gd (n + 1) i ds St = runFn (F tab gd n) f ds St := F_def e
    refine ⟨f, d, fa, fd, e, edd, h2, fun ds St hl => ?_, ?_, hm, FD.kp, hb, look FD⟩
    · rw [eF]; unfold runFn; rw [if_neg hl]
    · obtain ⟨oc, od, dV, kV, doc, pm, an, cdv, ct, osl, rfl, lk, hcd, _, _⟩ := FD.ex
      have hcode : cdv = .ref c := hcode
      refine (fn_of (k := 9 * n + 8) lk hcd S (fun vs H Q E h => by rw [← h2]; exact h.1) fun A outer s H vs Q E hr hsp => ?_)
      obtain ⟨hl, al, St, ds, w0, rv, hp⟩ := hsp
      rw [eF] at hp
      obtain ⟨hl2, hp⟩ := run_post hp
      generalize hX : cxOf (L2.CX P w) P w Γ.K mg base d.N x d.scope fa cdv A outer s H E = X
      have sg : SG Γ (F tab gd n) X E 1 := by
        subst hX
        refine ⟨⟨rfl, rfl, S.nd, hr.mono (by omega), tb, takes_of rfl rfl rfl rfl, fun j y ks' hy hc1' hc2' => ?_, fun j y hy => ?_, fun j y hy => ?_, .inr ⟨c, Pt, hcode, hT, hPt⟩⟩, rfl, passes_of rfl, S.kind⟩
        · obtain ⟨f', d', fa', fd', e', _, e2, hbad, hF, hm', hk', hb', _⟩ := ih j y ks' hy hc1' hc2'
          exact ⟨f'.np, 9 * n, fa', fd', d'.ps, hbad, hF, hr, hm', hk', hb'⟩
        · obtain ⟨hl, u, v, d0, h1, h2, h3, h4⟩ := hcn.con j y hy
          exact ⟨u, v, d0, h1, h2, fun S => by rw [F_look hl]; unfold gLook; rw [h3], h4⟩
        · obtain ⟨hl, da, es, m, kv, h1, h2, h3, h4⟩ := hcn.dic j y hy
          refine ⟨da, es, m, h1, h2, fun d0 S hnb => ?_⟩
          rw [F_look hl] at hnb ⊢
          unfold gLook at hnb ⊢
          rw [h3] at hnb ⊢
          cases d0 with
          | str z =>
            cases e : kv.lookup z with
            | none => simp [e] at hnb
            | some r =>
              obtain ⟨u, v, g1, g2, g3⟩ := h4 z r e
              exact ⟨z, r, u, v, rfl, by simp [e], g1, g2, g3⟩
          | _ => exact absurd rfl hnb
      have eN : X.N = d.N := by rw [← hX]; rfl
      have eS : X.env.scope = d.scope := by rw [← hX]; rfl
      refine ⟨TSx Γ (F tab gd n) E f.body, (sndS sg f.body).b (by rw [eN, eS]; exact h4), al, _, St, w0, start_RE rv h3 hl2.symm, hp⟩
end
end Mi
set_option autoImplicit true
set_option Elab.async false
set_option linter.all false
set_option maxRecDepth 100000
set_option maxHeartbeats 4000000
/-! MiE1: a law's end. -/
namespace Mi
open PySem PySem.Spec PyProof.Rows L2
abbrev Nms : Type := List (Str × List Str)
def dfOf (x : Str) (d : Dd) : He.DefD := ⟨(x, none), x, x, d.params, d.body, d.scope, [], []⟩
def fnL (nm : Nms) (dds : List Dd) : List He.DefD := (nm.zip dds).map fun p => dfOf p.1.1 p.2
def faL (nm : Nms) : List He.Fa := nm.map (fun p => .glo p.1) ++ blts.map .free
def tfL (nm : Nms) : List He.Defn := nm.map fun p => (p.1, none)
/-- no list among the written objects -/
def exL (K : PySem.W.Frag) : Bool := K.all fun q => match q.2.cls with
  | .type c => !(c == "list")
  | _ => true
def bindB (ks : List Str) (d : Dd) : Bool := !ks.isEmpty || plainA d.params d.ps
/-- the names' marks are those of defs -/
def kwB (ks : List Str) : Bool := !decide (ks = conM) && !decide (ks = dicM)
def allB (nm nmA : Nms) (tab : List Fn) (dds : List Dd) : Bool :=
  (dds.length == nm.length) && (tab.length == nm.length) && (List.range nm.length).all fun i => match nm[i]?, tab[i]?, dds[i]? with
    | some p, some f, some d => ddB nmA f d && bindB p.2 d
    | _, _, _ => false
theorem allB_at {nm nmA : Nms} {tab : List Fn} {dds : List Dd} (h : allB nm nmA tab dds = true) {i : Nat} {x : Str} {ks : List Str} (hi : nm[i]? = some (x, ks)) : ∃ f d, tab[i]? = some f ∧ dds[i]? = some d ∧ ddB nmA f d = true ∧ bindB ks d = true := by
  unfold allB at h
  simp only [Bool.and_eq_true, List.all_eq_true, List.mem_range] at h
  have q := h.2 i (List.getElem?_eq_some_iff.mp hi).1
  rw [hi] at q
  cases e1 : tab[i]? with
  | none => rw [e1] at q; cases q
  | some f =>
    cases e2 : dds[i]? with
    | none => rw [e1, e2] at q; cases q
    | some d =>
      rw [e1, e2] at q
      have q : (ddB nmA f d && bindB ks d) = true := q
      rw [Bool.and_eq_true] at q
      exact ⟨f, d, rfl, rfl, q.1, q.2⟩
theorem fnL_at {nm : Nms} {dds : List Dd} {i : Nat} {x : Str} {ks : List Str} {d : Dd} (h1 : nm[i]? = some (x, ks)) (h2 : dds[i]? = some d) : (fnL nm dds)[i]? = some (dfOf x d) := by
  unfold fnL
  have e : (nm.zip dds)[i]? = some ((x, ks), d) := List.getElem?_zip_eq_some.mpr ⟨h1, h2⟩
  rw [List.getElem?_map, e]
  rfl
/-! ### the module's constants -/
abbrev Gcs : Type := List (Str × Gv)
def Gv.mark : Gv → List Str | .con _ => conM | .dic _ => dicM
/-- all names: the defs, then the constants -/
def allN (nm : Nms) (gs : Gcs) : Nms := nm ++ gs.map fun p => (p.1, p.2.mark)
mutual
/-- a value of the written part stands for a datum -/
def dvB (K : PySem.W.Frag) : D → Value → Bool
  | .non, .none => true
  | .bl b, .bool c => b == c
  | .int i, .int j _ => decide (i = j)
  | .str x, .str y _ => decide (x = y)
  | .tup ds, .ref a => (match K.lookup a with
    | some ⟨.type c, _, .seq its _, _⟩ => decide (c = "tuple") && (decide (its.size ≤ sizeLine) && dvBs K ds its.toList)
    | _ => false)
  | _, _ => false
def dvBs (K : PySem.W.Frag) : List D → List Value → Bool
  | [], [] => true
  | d :: ds, u :: us => dvB K d u && dvBs K ds us
  | _, _ => false
end
mutual
theorem dvB_ok {K : PySem.W.Frag} : ∀ (d : D) (u : Value), dvB K d u = true → ∃ v, RelV v u ∧ ∀ al H, RV K al H d v
  | .non, .none, _ => ⟨.non, rfl, fun _ _ => .non⟩
  | .bl b, .bool c, h => by
    have h : (b == c) = true := h
    obtain rfl := eq_of_beq h
    exact ⟨.bl b, rfl, fun _ _ => .bl b⟩
  | .int i, .int j t, h => by
    obtain rfl : i = j := of_decide_eq_true h
    exact ⟨.int i, ⟨t, rfl⟩, fun _ _ => .int i⟩
  | .str x, .str y t, h => by
    obtain rfl : x = y := of_decide_eq_true h
    exact ⟨.str x, ⟨t, rfl⟩, fun _ _ => .str x⟩
  | .tup ds, .ref a, h => by
    have h : (match K.lookup a with
      | some ⟨.type c, _, .seq its _, _⟩ => decide (c = "tuple") && (decide (its.size ≤ sizeLine) && dvBs K ds its.toList)
      | _ => false) = true := h
    split at h
    · rename_i c od its n osl hk
      simp only [Bool.and_eq_true, decide_eq_true_eq] at h
      obtain ⟨rfl, h2, h3⟩ := h
      obtain ⟨vs, q1, q2⟩ := dvBs_ok ds its.toList h3
      exact ⟨.ref a, rfl, fun al H => .tup (.inr ⟨_, its, n, hk, rfl, rfl, h2, q1⟩) (q2 al H)⟩
    · cases h
theorem dvBs_ok {K : PySem.W.Frag} : ∀ (ds : List D) (us : List Value), dvBs K ds us = true → ∃ vs, Vals vs us ∧ ∀ al H, RVs K al H ds vs
  | [], [], _ => ⟨[], .nil, fun _ _ => .nil⟩
  | d :: ds, u :: us, h => by
    have h : (dvB K d u && dvBs K ds us) = true := h
    rw [Bool.and_eq_true] at h
    obtain ⟨v, q1, q2⟩ := dvB_ok d u h.1
    obtain ⟨vs, q3, q4⟩ := dvBs_ok ds us h.2
    exact ⟨v :: vs, .cons q1 q3, fun al H => .cons (q2 al H) (q4 al H)⟩
end
def gvB (K : PySem.W.Frag) (x : Str) : Gv → Bool
  | .con d => (match PySem.W.nsIn K mainGlobals x with | some (some u) => dvB K d u | _ => false)
  | .dic kv => (match PySem.W.nsIn K mainGlobals x with | some (some (.ref _)) => true | _ => false) && kv.all fun q => match PySem.W.nsIn K (He.ga K x) q.1 with | some (some u) => dvB K q.2 u | _ => false
/-- no list among the written objects; the constants -/
def exB (gs : Gcs) (K : PySem.W.Frag) : Bool := exL K && gs.all fun p => gvB K p.1 p.2
/-- the dicts with their keys -/
def tabL : Gcs → List He.Tab
  | [] => []
  | (x, .dic kv) :: r => (fun K => He.ga K x, kv.map (·.1)) :: tabL r
  | _ :: r => tabL r
theorem tabL_mem {gs : Gcs} {x : Str} {kv : List (Str × D)} : (x, Gv.dic kv) ∈ gs → (fun K => He.ga K x, kv.map (·.1)) ∈ tabL gs := fun h => by
  induction gs with
  | nil => cases h
  | cons p r ih =>
    rcases List.mem_cons.mp h with e | hr
    · subst e; exact List.mem_cons_self
    · obtain ⟨y, g⟩ := p
      cases g with
      | con d => exact ih hr
      | dic k => exact List.mem_cons_of_mem _ (ih hr)
/-- how keywords bind -/
def KwOk (nm : Nms) (dds : List Dd) : Prop := ∀ (i : Nat) (x : Str) (k : Str) (ks : List Str) (d : Dd), nm[i]? = some (x, k :: ks) → dds[i]? = some d → d.ps.length = ks.length + 2 ∧
  ∀ (kV doc pm : Value) (an : Option Addr) (cdv ct : Value) (us ws : List Value), us.length = 1 → ws.length = ks.length + 1 → bindArgs (PySem.W.fnOf x x d.params d.body d.scope .none kV doc pm an cdv ct) ⟨us, (k :: ks).zip ws⟩ = pure (d.ps.zip (us ++ ws))
theorem calB_of {K : PySem.W.Frag} {nm : Nms} {dds : List Dd} (hk : KwOk nm dds) {i : Nat} {x : Str} {ks : List Str} {d : Dd} {kws : List (Str × V)} {fa : Addr} {fd : FuncData} (h1 : nm[i]? = some (x, ks)) (h2 : dds[i]? = some d) (hb : bindB ks d = true)
    (F : FunD K x x d.params d.body d.scope [] kws fa fd) : CalB K fd d.ps ks := by
  cases ks with
  | nil => exact F.bindsN fun _ _ _ _ _ _ us hl => bind_plain hb hl
  | cons k ks =>
    obtain ⟨h3, h4⟩ := hk i x k ks d h1 h2
    refine ⟨h3, ⟨fun s us ws X l1 l2 => ?_, fun r1 r2 => r1.append r2⟩⟩
    obtain ⟨oc, od, dV, kV, doc, pm, an, cdv, ct, osl, rfl, lk, hcd, hD, hK⟩ := F.ex
    rcases hD with ⟨_, rfl⟩ | ⟨e, _⟩
    · exact .of_eq (h4 kV doc pm an cdv ct us ws l1 l2)
    · exact absurd rfl e
section
variable {nm : Nms} {gs : Gcs} {tab : List Fn} {dds : List Dd} {ts : List He.Tab} {ex : PySem.W.Frag → Bool} {w : World} {h : Heap} {K : PySem.W.Frag} {mg : Str → Option Value}
theorem allN_def {i : Nat} {p : Str × List Str} (h : nm[i]? = some p) : (allN nm gs)[i]? = some p := by
  unfold allN
  rw [List.getElem?_append_left (List.getElem?_eq_some_iff.mp h).1, h]
theorem defN {i : Nat} {x : Str} {ks : List Str} (h : (allN nm gs)[i]? = some (x, ks)) (n1 : ks ≠ conM) (n2 : ks ≠ dicM) : nm[i]? = some (x, ks) := by
  unfold allN at h
  by_cases hlt : i < nm.length
  · rw [List.getElem?_append_left hlt] at h; exact h
  · rw [List.getElem?_append_right (by omega), List.getElem?_map] at h
    cases e : gs[i - nm.length]? with
    | none => rw [e] at h; cases h
    | some p =>
      rw [e] at h
      cases h
      obtain ⟨y, g⟩ := p
      cases g with
      | con d => exact absurd rfl n1
      | dic kv => exact absurd rfl n2
theorem defOf_says (c : He.SaysX (faL nm) (fnL nm dds) ts (tfL nm) ex w h K) {i : Nat} {x : Str} {ks : List Str} {d : Dd} (h1 : nm[i]? = some (x, ks)) (h2 : dds[i]? = some d) : ∃ fd, FunD K x x d.params d.body d.scope [] [] (He.fAd K (x, none)) fd :=
  c.t.d.def_ i (fnL_at h1 h2)
theorem glo_says (c : He.SaysX (faL nm) (fnL nm dds) ts (tfL nm) ex w h K) (X : K.In h) (G : h.Ns mainGlobals mg) {i : Nat} {x : Str} {ks : List Str} (h1 : nm[i]? = some (x, ks)) : mg x = some (.ref (He.ga K x)) :=
  He.glo_ok X G (c.t.d.facts (f := .glo x) (List.mem_append_left _ (List.mem_map.mpr ⟨_, List.mem_of_getElem? h1, rfl⟩)))
theorem blt_says (c : He.SaysX (faL nm) (fnL nm dds) ts (tfL nm) ex w h K) (X : K.In h) (G : h.Ns mainGlobals mg) : ∀ x ∈ blts, mg x = none := fun x hx =>
  He.free_ok X G (c.t.d.facts (f := .free x) (List.mem_append_right _ (List.mem_map.mpr ⟨_, hx, rfl⟩)))
theorem con_says (hx : ex = exB gs) (ht : ts = tabL gs) (hl : tab.length = nm.length) (hkw : ∀ p ∈ nm, kwB p.2 = true) {T : List Addr} {cls : Nat → Addr} (c : He.SaysX (faL nm) (fnL nm dds) ts (tfL nm) ex w h K) (X : K.In h) (G : h.Ns mainGlobals mg) :
    ConAt { K := K, T := T, nm := allN nm gs, cls := cls } w mg tab (gs.map (·.2)) := by
  subst hx ht
  have more : ∀ {x : Str} {g : Gv}, (x, g) ∈ gs → gvB K x g = true := fun {x g} hm => List.all_eq_true.mp (Bool.and_eq_true_iff.mp (show (exL K && gs.all fun p => gvB K p.1 p.2) = true from c.more)).2 (x, g) hm
  have at' : ∀ {i : Nat} {x : Str} {ks : List Str}, (allN nm gs)[i]? = some (x, ks) → (kwB ks = true) ∨ (tab.length ≤ i ∧ ∃ g, (x, g) ∈ gs ∧ ks = g.mark ∧ (gs.map (·.2))[i - tab.length]? = some g) := fun {i x ks} hi => by
    unfold allN at hi
    by_cases hlt : i < nm.length
    · rw [List.getElem?_append_left hlt] at hi
      exact .inl (hkw _ (List.mem_of_getElem? hi))
    · rw [List.getElem?_append_right (by omega), List.getElem?_map] at hi
      refine .inr ⟨by omega, ?_⟩
      cases e : gs[i - nm.length]? with
      | none => rw [e] at hi; cases hi
      | some p =>
        rw [e] at hi
        cases hi
        exact ⟨p.2, List.mem_of_getElem? e, rfl, by rw [List.getElem?_map, hl, e]; rfl⟩
  refine ⟨fun i x hi => ?_, fun i x hi => ?_⟩
  · rcases at' hi with z | ⟨h1, g, h2, h3, h4⟩
    · exact absurd z (by decide)
    · cases g with
      | dic kv => exact absurd h3 (show ¬ conM = dicM by decide)
      | con d =>
        have q := more h2
        have q : (match PySem.W.nsIn K mainGlobals x with | some (some u) => dvB K d u | _ => false) = true := q
        split at q
        · rename_i u e
          obtain ⟨v, q1, q2⟩ := dvB_ok d u q
          exact ⟨h1, u, v, d, PySem.W.mg_of X G e, q1, h4, q2⟩
        · cases q
  · rcases at' hi with z | ⟨h1, g, h2, h3, h4⟩
    · exact absurd z (by decide)
    · cases g with
      | con d => exact absurd h3 (show ¬ dicM = conM by decide)
      | dic kv =>
        have q := more h2
        have q : ((match PySem.W.nsIn K mainGlobals x with | some (some (.ref _)) => true | _ => false) && kv.all fun q => match PySem.W.nsIn K (He.ga K x) q.1 with | some (some u) => dvB K q.2 u | _ => false) = true := q
        rw [Bool.and_eq_true] at q
        obtain ⟨q1, q2⟩ := q
        split at q1
        · rename_i a e
          have ea : He.ga K x = a := by unfold He.ga; rw [e]
          obtain ⟨j, hj, ej⟩ := List.mem_iff_getElem.mp (tabL_mem h2)
          obtain ⟨es, n, kd⟩ := c.t.tab j (t := (fun K => He.ga K x, kv.map (·.1))) (by rw [List.getElem?_eq_getElem hj, ej])
          have kd : KDict K w (He.ga K x) es n := kd
          rw [ea] at kd q2
          refine ⟨h1, a, es, n, kv, PySem.W.mg_of X G e, kd, h4, fun z r hz => ?_⟩
          have q3 := List.all_eq_true.mp q2 (z, r) (mem_of_lookup hz)
          split at q3
          · rename_i u e3
            obtain ⟨v, g1, g2⟩ := dvB_ok r u q3
            exact ⟨u, v, e3, g1, g2⟩
          · cases q3
        · cases q1
theorem nolist {K : PySem.W.Frag} (he : exL K = true) {a : Addr} {o : Obj} (e : K.lookup a = some o) (hc : o.cls = .type "list") : False := by
  have q := List.all_eq_true.mp he (a, o) (He.lookup_mem e)
  simp only [hc] at q
  exact absurd q (by decide)
theorem mini_at {l : PySem.W.OpenLaw} (hb : allB nm (allN nm gs) tab dds = true) (hk : KwOk nm dds) (hx : ex = exB gs) (ht : ts = tabL gs) (hkw : ∀ p ∈ nm, kwB p.2 = true) {cls : Nat → Addr} (c : He.SaysX (faL nm) (fnL nm dds) ts (tfL nm) ex w h K) (KX : K.In h) (G : h.Ns mainGlobals mg) {fa : Addr} (hfa : mg ("law" : Str) = some (.ref fa))
    {iL : Nat} (hi : nm[iL]? = some (("law" : Str), ([] : List Str))) {dL : Dd} (hd : dds[iL]? = some dL) (hps : dL.ps = [("script" : Str)]) {fL : Fn} (hfL : tab[iL]? = some fL) (hnp : fL.np = 1) {n : Nat}
    (law : ∀ ns : List Int, ns.length ≤ 63 → (∀ z ∈ ns, Builtin.Int.intBits z ≤ 1048576) → ∃ S', F tab (gs.map (·.2)) n iL [.ref 0] [.frz (ns.map D.int)] = .ok (.bl true) S') :
    LamX.LawAtS l w K (L2.CX l.prog w) (9 * n) 63 "script" mg fa h := by
  obtain ⟨fd, FL⟩ := defOf_says c hi hd
  have efa : fa = He.ga K "law" := by
    have := glo_says c KX G hi
    rw [hfa] at this
    cases this; rfl
  subst efa
  have hlen : tab.length = nm.length := by
    have z := hb
    unfold allB at z
    simp only [Bool.and_eq_true, beq_iff_eq] at z
    exact z.1.2
  have hcs : ∀ p ∈ (tfL nm).map (He.cT K), ∃ q ∈ tfL nm, p = He.cT K q := fun p hp => by
    obtain ⟨q, hq, e⟩ := List.mem_map.mp hp
    exact ⟨q, hq, e.symm⟩
  let Γ : Gam := { K := K, T := ((tfL nm).map (He.cT K)).map (·.2), nm := allN nm gs, cls := cls }
  refine ⟨fd, (tfL nm).map (He.cT K), Sp' Γ (F tab (gs.map (·.2)) n) 1 iL, fun p hp => ?_, fun p hp => ?_, fun p hp => ?_, fun s u => ?_, fun H a ns hl hbits hT hS => ?_, fun base Kb Gb TB => ?_⟩
  · obtain ⟨q, hq, rfl⟩ := hcs p hp
    exact c.empty q hq
  · obtain ⟨q, hq, rfl⟩ := hcs p hp
    exact c.out q hq
  · obtain ⟨q, hq, rfl⟩ := hcs p hp
    exact PySem.W.codeHd_of_K KX (c.hd q hq)
  · obtain ⟨f, d, _, e2, _, hbB⟩ := allB_at hb hi
    rw [hd] at e2; cases e2
    have := FL.bindsA (ps := dL.ps) (fun _ _ _ _ _ _ us hl => bind_plain (by simpa [bindB] using hbB) hl) s [u] (by rw [hps]; rfl)
    rw [hps] at this
    exact this
  · obtain ⟨S', e⟩ := law ns hl hbits
    have hR : Rd H a (.lst (ns.map V.int)) := by
      rcases hS with z | ⟨o, its, m, e1, e2, _⟩
      · exact z
      · exact (nolist (Bool.and_eq_true_iff.mp (show (exL K && _) = true from by rw [hx] at c; exact c.more)).1 e1 e2).elim
    have rints : ∀ (ns : List Int) (al : List Addr), RVs K al H (ns.map D.int) (ns.map V.int) := fun ns al => by
      induction ns with
      | nil => exact .nil
      | cons z r ih => exact .cons (.int z) ih
    refine ⟨rfl, [a], [.frz (ns.map D.int)], [.ref 0], ⟨rfl, by simp, fun n o b h1 h2 => ?_, fun p hp => ?_⟩, .cons (.ref rfl) .nil, ?_⟩
    · cases n with
      | zero =>
        cases h1; cases h2
        exact ⟨ns.map V.int, hR, rints ns _⟩
      | succ n => cases h1
    · obtain ⟨q, hq, rfl⟩ := List.mem_map.mp hp
      exact ⟨#[], hT q hq, trivial⟩
    · rw [e]
      intro al' H' _ _ v rv
      cases rv
      rfl
  · have TB : ∀ p ∈ (tfL nm).map (He.cT K), GxR.TabB base mg p.1 p.2 := fun p hp => let z := TB p hp; ⟨z.code, z.bm, z.gP⟩
    have Da : ∀ (i : Nat) (x : Str) (ks : List Str), Γ.nm[i]? = some (x, ks) → ks ≠ conM → ks ≠ dicM → ∃ f d, tab[i]? = some f ∧ dds[i]? = some d ∧ DefAt Γ mg base f x ks d := fun i x ks h1 n1 n2 => by
      have h1 : nm[i]? = some (x, ks) := defN h1 n1 n2
      obtain ⟨f, d, e1, e2, e3, e4⟩ := allB_at hb h1
      obtain ⟨fd, FD⟩ := defOf_says c h1 e2
      refine ⟨f, d, e1, e2, e3, He.ga K x, fd, [], [], FD, glo_says c KX G h1, calB_of hk h1 e2 e4 FD, ?_⟩
      obtain ⟨oc, od, osl, lk⟩ := look FD
      obtain ⟨oc', od', dV, kV, doc, pm, an, cdv, ct, osl', rfl, lk', hcd, _⟩ := FD.ex
      obtain ⟨cc, ecc⟩ := He.codeIn_ref hcd
      have hm : ((x, none) : He.Defn) ∈ tfL nm := List.mem_map.mpr ⟨_, List.mem_of_getElem? h1, rfl⟩
      have ec : He.codeOf K (x, none) = cc := He.codeOf_eq lk' ecc
      refine ⟨cc, He.tabOf K cc, ecc, ?_, ?_⟩
      · have := TB _ (List.mem_map.mpr ⟨_, hm, rfl⟩)
        unfold He.cT at this
        rw [ec] at this
        exact this
      · have hm2 : He.cT K (x, none) ∈ (tfL nm).map (He.cT K) := List.mem_map.mpr ⟨_, hm, rfl⟩
        have hm3 : (He.cT K (x, none)).2 ∈ ((tfL nm).map (He.cT K)).map (·.2) := List.mem_map.mpr ⟨_, hm2, rfl⟩
        have e : (He.cT K (x, none)).2 = He.tabOf K cc := by
          show He.tabOf K (He.codeOf K (x, none)) = _
          rw [ec]
        rw [e] at hm3
        exact hm3
    obtain ⟨f, d, fa', fd', e1, e1', e2, _, hF, hm, _, _, oc, od, osl, lk⟩ := defs_ok (P := l.prog) (w := w) (tab := tab) (gd := gs.map (·.2)) (Γ := Γ) (mg := mg) (base := base) (blt_says c KX G) (con_says hx ht hlen hkw c KX G) Da n iL "law" [] (allN_def hi) (by decide) (by decide)
    rw [hfL] at e1; cases e1
    rw [hfa] at hm; cases hm
    obtain ⟨oc', od', osl', lk'⟩ := look FL
    have lk : K.lookup (He.ga K "law") = _ := lk
    have lk' : K.lookup (He.ga K "law") = _ := lk'
    rw [lk] at lk'
    have efd : fd' = fd := by cases lk'; rfl
    subst efd
    have hd' : d.ps = [("script" : Str)] := by rw [hd] at e1'; cases e1'; exact hps
    rw [hd', hnp] at hF
    exact hF
end
end Mi
namespace Mi
open PySem L2
theorem cx_false {P : Program} {w : World} {outer : List PySem.Env} {H : Hp} {s : Shared} {e : Value} {s' : Shared} (h : L2.CX P w outer H s (fun _ _ _ => False) e s') : False := by
  obtain ⟨_, _, _, _, _, _, _, _, _, _, _, _, z⟩ := h
  exact z.elim
end Mi
set_option autoImplicit true
set_option Elab.async false
set_option linter.all false
set_option maxRecDepth 100000
set_option maxHeartbeats 4000000
/-! MiQ: equality of data. -/
namespace Mi
open PySem
/-- no references, no texts, tuples not deeper than k -/
def flat : Nat → D → Bool
  | _, .non => true
  | _, .bl _ => true
  | _, .int _ => true
  | k + 1, .tup ds => ds.all (flat k)
  | _, _ => false
theorem flat_tup {k : Nat} {ds : List D} (h : flat k (.tup ds) = true) : ∃ j, k = j + 1 ∧ ∀ d ∈ ds, flat j d = true := by
  cases k with
  | zero => cases h
  | succ j => exact ⟨j, rfl, fun d hd => List.all_eq_true.mp (show ds.all (flat j) = true from h) d hd⟩
theorem flats_ok (k : Nat) (ih : ∀ d, flat k d = true → (py d).canLay0 = true ∧ (py d).depth ≤ k) : ∀ ds : List D, (∀ d ∈ ds, flat k d = true) → PyData.canLayAll0 (pys ds) = true ∧ PyData.depthAll (pys ds) ≤ k
  | [], _ => ⟨by simp [pys, PyData.canLayAll0], by simp [pys, PyData.depthAll]⟩
  | d :: ds, h => by
    obtain ⟨h1, h2⟩ := ih d (h d List.mem_cons_self)
    obtain ⟨h3, h4⟩ := flats_ok k ih ds fun e he => h e (List.mem_cons_of_mem _ he)
    exact ⟨by simp [pys, PyData.canLayAll0, h1, h3], by simp only [pys, PyData.depthAll]; omega⟩
theorem flat_ok : ∀ (k : Nat) (d : D), flat k d = true → (py d).canLay0 = true ∧ (py d).depth ≤ k := by
  intro k
  induction k with
  | zero =>
    intro d h
    cases d with
    | str x => cases h
    | tup ds => cases h
    | ref n => cases h
    | _ => exact ⟨by simp [py, PyData.canLay0], by simp [py, PyData.depth]⟩
  | succ k ih =>
    intro d h
    cases d with
    | tup ds =>
      have h : ds.all (flat k) = true := h
      obtain ⟨h1, h2⟩ := flats_ok k ih ds (List.all_eq_true.mp h)
      exact ⟨by simp [py, PyData.canLay0, h1], by simp only [py, PyData.depth]; omega⟩
    | str x => cases h
    | ref n => cases h
    | _ => exact ⟨by simp [py, PyData.canLay0], by simp [py, PyData.depth]⟩
theorem flat_fine {k : Nat} {d : D} (h : flat k d = true) (hk : k ≤ 64) : fine d = true := by
  obtain ⟨h1, h2⟩ := flat_ok k d h
  unfold fine SeqAt.shaped
  rw [h1, Bool.true_and]
  exact decide_eq_true (by omega)
theorem flats_fine {k : Nat} {ds : List D} (h : ∀ d ∈ ds, flat k d = true) (hk : k ≤ 63) : fines ds = true := flat_fine (k := k + 1) (d := .tup ds) (List.all_eq_true.mpr h) (by omega)
theorem flat_ref {k n : Nat} (h : flat k (.ref n) = true) : False := by cases k <;> cases h
theorem peq_flat {S : Store} {k j : Nat} {d e : D} (h : flat k d = true) (h' : flat j e = true) (hk : k ≤ 64) (hj : j ≤ 64) : peq S d e = some (PyData.eqv (py d) (py e)) := by
  cases d with
  | ref n => exact (flat_ref h).elim
  | _ => cases e <;> first | exact (flat_ref h').elim | (unfold peq; simp only [flat_fine h hk, flat_fine h' hj, Bool.and_self, if_true])
theorem peq_self {S : Store} {k : Nat} {d : D} (h : flat k d = true) (hk : k ≤ 64) : peq S d d = some true := by
  rw [peq_flat h h hk hk, SeqAt.eqv_refl _ (flat_ok k d h).1]
theorem peq_int (S : Store) (i j : Int) : peq S (.int i) (.int j) = some (i == j) := peq_flat (k := 0) (j := 0) rfl rfl (by decide) (by decide)
theorem peq_lists {S : Store} {k n m : Nat} {ds : List D} (h1 : listAt S n = some ds) (h2 : listAt S m = some ds) (h : ∀ d ∈ ds, flat k d = true) (hk : k ≤ 63) : peq S (.ref n) (.ref m) = some true := by
  unfold peq
  simp only [h1, h2, flats_fine h hk, Bool.and_self, if_true]
  have := (flat_ok (k + 1) (.tup ds) (List.all_eq_true.mpr h)).1
  have e := SeqAt.eqv_refl (py (.tup ds)) this
  have e : PyData.eqvAll (pys ds) (pys ds) = true := by simpa [py, PyData.eqv] using e
  rw [e]
end Mi
set_option autoImplicit true
set_option Elab.async false
set_option linter.all false
set_option maxRecDepth 100000
set_option maxHeartbeats 0
/-! K01: the table of law_k01_one_order. -/
namespace K01
open PySem PySem.Spec PyProof.Rows L2
def _FORMS_kv : List (Str × Mi.D) := [("levels", .tup [.tup [.int 1, .int 0, .int 0]]), ("due", .tup [.tup [.int 0, .int 1, .int 1]]), ("came", .tup [.tup [.int 0, .int 1, .int 0]]), ("bounds", .tup [.tup [.int 0, .int 0, .int 1]]), ("numbers", .tup [])]
/-- 0: _is_int(value) -/
def f0 : Mi.Fn where
  np := 1
  nn := 1
  body := (.cons (.ret (.and (.cons (.isi (.var 0) .int) (.cons (.not (.isi (.var 0) .bool)) .nil))))
  .nil)
/-- 1: _is_seq(value) -/
def f1 : Mi.Fn where
  np := 1
  nn := 1
  body := (.cons (.ret (.or (.cons (.isi (.var 0) .tuple) (.cons (.isi (.var 0) .list) .nil))))
  .nil)
/-- 2: _in(value, low, high) -/
def f2 : Mi.Fn where
  np := 3
  nn := 3
  body := (.cons (.ret (.and (.cons (.call 0 (.cons (.var 0) .nil)) (.cons (.chn .le .le (.var 1) (.var 0) (.var 2)) .nil))))
  .nil)
def f3_e0 : Mi.E := .gen .all 1 [] (.nm 0) (.itSeq (.var 0)) .nil (.cmp .eq (.var 0) (.cst (.int 0)))
def f3_e1 : Mi.E := .gen .all 1 [] (.nm 0) (.itSeq (.var 0)) .nil (.call 2 (.cons (.var 0) (.cons (.neg (.cst (.int 2))) (.cons (.cst (.int 2)) .nil))))
/-- 3: _form(value) -/
def f3 : Mi.Fn where
  np := 1
  nn := 1
  body := (.cons (.iff (.or (.cons (.not (.tr (.call 1 (.cons (.var 0) .nil)))) (.cons (.tr (.cmp .ne (.fn .len (.cons (.var 0) .nil)) (.cst (.int 3)))) .nil)))
  (.cons (.ret (.cst .non))
  .nil)
  .nil)
  (.cons (.iff (.not (.tr f3_e1))
  (.cons (.ret (.cst .non))
  .nil)
  .nil)
  (.cons (.iff (.tr f3_e0)
  (.cons (.ret (.cst .non))
  .nil)
  .nil)
  (.cons (.ret (.fn .tuple (.cons (.var 0) .nil)))
  .nil))))
def f4_e0 : Mi.E := .gen .any 1 [] (.nm 0) (.itSeq (.var 4)) .nil (.cmp .is (.var 0) (.cst .non))
def f4_e1 : Mi.E := .gen .tup 1 [] (.nm 0) (.itSeq (.var 1)) .nil (.call 3 (.cons (.var 0) .nil))
/-- 4: _kernel(value) -/
def f4 : Mi.Fn where
  np := 1
  nn := 5
  body := (.cons (.iff (.or (.cons (.not (.tr (.call 1 (.cons (.var 0) .nil)))) (.cons (.tr (.cmp .ne (.fn .len (.cons (.var 0) .nil)) (.cst (.int 3)))) .nil)))
  (.cons (.ret (.cst .non))
  .nil)
  .nil)
  (.cons (.unp [1, 2, 3] (.var 0))
  (.cons (.iff (.or (.cons (.not (.tr (.call 1 (.cons (.var 1) .nil)))) (.cons (.tr (.cmp .gt (.fn .len (.cons (.var 1) .nil)) (.cst (.int 3)))) .nil)))
  (.cons (.ret (.cst .non))
  .nil)
  .nil)
  (.cons (.set 4 f4_e1)
  (.cons (.iff (.tr f4_e0)
  (.cons (.ret (.cst .non))
  .nil)
  .nil)
  (.cons (.iff (.or (.cons (.not (.tr (.isi (.var 2) .bool))) (.cons (.not (.tr (.call 2 (.cons (.var 3) (.cons (.cst (.int 0)) (.cons (.cst (.int 2)) .nil)))))) .nil)))
  (.cons (.ret (.cst .non))
  .nil)
  .nil)
  (.cons (.ret (.tup (.cons (.var 4) (.cons (.var 2) (.cons (.var 3) .nil)))))
  .nil)))))))
/-- 5: _need_kernel(value, at) -/
def f5 : Mi.Fn where
  np := 2
  nn := 3
  body := (.cons (.set 2 (.call 4 (.cons (.var 0) .nil)))
  (.cons (.iff (.tr (.cmp .is (.var 2) (.cst .non)))
  (.cons .nev
  .nil)
  .nil)
  (.cons (.ret (.var 2))
  .nil)))
def f6_e0 : Mi.E := .gen .all 1 [] (.nm 0) (.itSeq (.var 0)) .nil (.call 0 (.cons (.var 0) .nil))
/-- 6: _view(value) -/
def f6 : Mi.Fn where
  np := 1
  nn := 1
  body := (.cons (.iff (.or (.cons (.not (.tr (.call 1 (.cons (.var 0) .nil)))) (.cons (.tr (.cmp .ne (.fn .len (.cons (.var 0) .nil)) (.cst (.int 4)))) .nil)))
  (.cons (.ret (.cst .non))
  .nil)
  .nil)
  (.cons (.iff (.not (.tr f6_e0))
  (.cons (.ret (.cst .non))
  .nil)
  .nil)
  (.cons (.ret (.fn .tuple (.cons (.var 0) .nil)))
  .nil)))
/-- 7: _worth(form, view) -/
def f7 : Mi.Fn where
  np := 2
  nn := 2
  body := (.cons (.ret (.bin .add (.bin .add (.bin .mul (.sub (.var 0) (.cst (.int 0))) (.sub (.var 1) (.cst (.int 0)))) (.bin .mul (.sub (.var 0) (.cst (.int 1))) (.sub (.var 1) (.cst (.int 1))))) (.bin .mul (.sub (.var 0) (.cst (.int 2))) (.sub (.var 1) (.cst (.int 2))))))
  .nil)
def f8_e0 : Mi.E := .gen .tup 1 [1] (.nm 0) (.itSeq (.sub (.var 0) (.cst (.int 0)))) .nil (.call 7 (.cons (.var 0) (.cons (.var 1) .nil)))
/-- 8: _rank(kernel, view) -/
def f8 : Mi.Fn where
  np := 2
  nn := 2
  body := (.cons (.ret (.bin .add f8_e0 (.tup (.cons (.sub (.var 1) (.cst (.int 3))) .nil))))
  .nil)
/-- 9: _is_ahead(kernel, x, y) -/
def f9 : Mi.Fn where
  np := 3
  nn := 3
  body := (.cons (.ret (.cmp .lt (.call 8 (.cons (.var 0) (.cons (.var 1) .nil))) (.call 8 (.cons (.var 0) (.cons (.var 2) .nil)))))
  .nil)
/-- 10: is_kernel(value) -/
def f10 : Mi.Fn where
  np := 1
  nn := 1
  body := (.cons (.ret (.cmp .isnot (.call 4 (.cons (.var 0) .nil)) (.cst .non)))
  .nil)
/-- 11: kernel_of(kernel) -/
def f11 : Mi.Fn where
  np := 1
  nn := 1
  body := (.cons (.ret (.call 5 (.cons (.var 0) (.cons (.cst (.int 1)) .nil))))
  .nil)
/-- 12: ahead(kernel, x, y) -/
def f12 : Mi.Fn where
  np := 3
  nn := 5
  body := (.cons (.set 0 (.call 5 (.cons (.var 0) (.cons (.cst (.int 1)) .nil))))
  (.cons (.par [3, 4] (.cons (.call 6 (.cons (.var 1) .nil)) (.cons (.call 6 (.cons (.var 2) .nil)) .nil)))
  (.cons (.iff (.tr (.cmp .is (.var 3) (.cst .non)))
  (.cons .nev
  .nil)
  .nil)
  (.cons (.iff (.or (.cons (.tr (.cmp .is (.var 4) (.cst .non))) (.cons (.tr (.cmp .eq (.sub (.var 3) (.cst (.int 3))) (.sub (.var 4) (.cst (.int 3))))) .nil)))
  (.cons .nev
  .nil)
  .nil)
  (.cons (.ret (.call 9 (.cons (.var 0) (.cons (.var 3) (.cons (.var 4) .nil)))))
  .nil)))))
def f13_e0 : Mi.E := .gen .sorted 1 [0] (.nm 0) (.itSeq (.var 2)) .nil (.call 8 (.cons (.var 1) (.cons (.var 0) .nil)))
def f13_e1 : Mi.E := .gen .tup 1 [] (.nm 0) (.itSeq f13_e0) .nil (.sub (.var 0) (.neg (.cst (.int 1))))
def f13_e2 : Mi.E := .lenSet [3] (.nm 3) (.itSeq (.var 2)) .nil (.sub (.var 3) (.cst (.int 3)))
def f13_e3 : Mi.E := .gen .any 1 [] (.nm 0) (.itSeq (.var 2)) .nil (.cmp .is (.var 0) (.cst .non))
def f13_e4 : Mi.E := .lc [3] (.nm 3) (.itSeq (.var 1)) .nil (.call 6 (.cons (.var 3) .nil))
/-- 13: in_order(kernel, views) -/
def f13 : Mi.Fn where
  np := 2
  nn := 4
  body := (.cons (.set 0 (.call 5 (.cons (.var 0) (.cons (.cst (.int 1)) .nil))))
  (.cons (.iff (.not (.tr (.call 1 (.cons (.var 1) .nil))))
  (.cons .nev
  .nil)
  .nil)
  (.cons (.set 2 f13_e4)
  (.cons (.iff (.tr f13_e3)
  (.cons .nev
  .nil)
  .nil)
  (.cons (.iff (.tr (.cmp .ne f13_e2 (.fn .len (.cons (.var 2) .nil))))
  (.cons .nev
  .nil)
  .nil)
  (.cons (.ret f13_e1)
  .nil))))))
/-- 14: named(name, preempts, protocol) -/
def f14 : Mi.Fn where
  np := 3
  nn := 3
  body := (.cons (.iff (.or (.cons (.not (.tr (.isi (.var 0) .str))) (.cons (.tr (.inG true (.var 0) 30)) .nil)))
  (.cons .nev
  .nil)
  .nil)
  (.cons (.iff (.not (.tr (.isi (.var 1) .bool)))
  (.cons .nev
  .nil)
  .nil)
  (.cons (.iff (.not (.tr (.call 2 (.cons (.var 2) (.cons (.cst (.int 0)) (.cons (.cst (.int 2)) .nil))))))
  (.cons .nev
  .nil)
  .nil)
  (.cons (.ret (.tup (.cons (.subG 30 (.var 0)) (.cons (.var 1) (.cons (.var 2) .nil)))))
  .nil))))
/-- 15: _law_says(told, due) -/
def f15 : Mi.Fn where
  np := 2
  nn := 2
  body := (.cons (.ret (.and (.cons (.isi (.var 0) .bool) (.cons (.cmp .eq (.var 0) (.var 1)) .nil))))
  .nil)
/-- 16: _law_is_integer(actual) -/
def f16 : Mi.Fn where
  np := 1
  nn := 1
  body := (.cons (.ret (.and (.cons (.isi (.var 0) .int) (.cons (.not (.isi (.var 0) .bool)) .nil))))
  .nil)
/-- 17: _law_cell(script, k) -/
def f17 : Mi.Fn where
  np := 2
  nn := 2
  body := (.cons (.iff (.tr (.cmp .lt (.var 1) (.fn .len (.cons (.var 0) .nil))))
  (.cons (.ret (.sub (.var 0) (.var 1)))
  .nil)
  .nil)
  (.cons (.ret (.cst (.int 0)))
  .nil))
def f18_l0 : Mi.Sx := (.cons (.set 4 (.bin .mod (.fn .int (.cons (.bin .add (.bin .add (.bin .mul (.var 4) (.cst (.int 48271))) (.bin .mul (.var 3) (.cst (.int 69621)))) (.cst (.int 11))) .nil)) (.cst (.int 2147483647))))
  (.cons (.set 4 (.bin .mod (.fn .int (.cons (.bin .add (.bin .mul (.var 4) (.cst (.int 16807))) (.cst (.int 7))) .nil)) (.cst (.int 2147483629))))
  (.cons (.exp (.mth .append (.var 2) (.cons (.bin .mod (.fn .int (.cons (.bin .fdiv (.var 4) (.cst (.int 65536))) .nil)) (.cst (.int 1000))) .nil)))
  .nil)))
def f18_l1 : Mi.Sx := .forr (.nm 3) (.itRng1 (.var 1))
  f18_l0
def f18_l2 : Mi.Sx := (.cons (.exp (.mth .append (.var 2) (.cons (.bin .mod (.var 0) (.cst (.int 1000))) .nil)))
  (.cons (.set 0 (.bin .fdiv (.var 0) (.cst (.int 1000))))
  .nil))
def f18_l3 : Mi.Sx := .forr (.nm 3) (.itRng1 (.var 1))
  f18_l2
/-- 18: _law_row(cell, many) -/
def f18 : Mi.Fn where
  np := 2
  nn := 5
  body := (.cons (.set 2 (.lst .nil))
  (.cons (.iff (.tr (.cmp .ge (.var 0) (.bin .pow (.cst (.int 10)) (.cst (.int 18)))))
  (.cons f18_l3
  (.cons (.ret (.var 2))
  .nil))
  .nil)
  (.cons (.set 4 (.bin .mod (.fn .int (.cons (.var 0) .nil)) (.cst (.int 2147483629))))
  (.cons f18_l1
  (.cons (.ret (.var 2))
  .nil)))))
/-- 19: _law_take(row, many) -/
def f19 : Mi.Fn where
  np := 2
  nn := 2
  body := (.cons (.iff (.tr (.cmp .eq (.fn .len (.cons (.var 0) .nil)) (.cst (.int 0))))
  (.cons (.ret (.cst (.int 0)))
  .nil)
  .nil)
  (.cons (.ret (.bin .mod (.fn .int (.cons (.mth .pop (.var 0) .nil) .nil)) (.var 1)))
  .nil))
def f20_l0 : Mi.Sx := (.cons (.set 3 (.tup (.cons (.bin .sub (.call 19 (.cons (.var 0) (.cons (.cst (.int 5)) .nil))) (.cst (.int 2))) (.cons (.bin .sub (.call 19 (.cons (.var 0) (.cons (.cst (.int 5)) .nil))) (.cst (.int 2))) (.cons (.bin .sub (.call 19 (.cons (.var 0) (.cons (.cst (.int 5)) .nil))) (.cst (.int 2))) .nil)))))
  (.cons (.iff (.tr (.cmp .ne (.var 3) (.tup (.cons (.cst (.int 0)) (.cons (.cst (.int 0)) (.cons (.cst (.int 0)) .nil))))))
  (.cons (.exp (.mth .append (.var 1) (.cons (.var 3) .nil)))
  .nil)
  .nil)
  .nil))
def f20_l1 : Mi.Sx := .forr (.nm 2) (.itRng1 (.call 19 (.cons (.var 0) (.cons (.cst (.int 4)) .nil))))
  f20_l0
/-- 20: _law_kernel(row) -/
def f20 : Mi.Fn where
  np := 1
  nn := 4
  body := (.cons (.set 1 (.lst .nil))
  (.cons f20_l1
  (.cons (.ret (.tup (.cons (.fn .tuple (.cons (.var 1) .nil)) (.cons (.cmp .eq (.call 19 (.cons (.var 0) (.cons (.cst (.int 2)) .nil))) (.cst (.int 1))) (.cons (.call 19 (.cons (.var 0) (.cons (.cst (.int 3)) .nil))) .nil)))))
  .nil)))
/-- 21: _law_worth(form, view) -/
def f21 : Mi.Fn where
  np := 2
  nn := 2
  body := (.cons (.ret (.bin .add (.bin .add (.bin .mul (.sub (.var 0) (.cst (.int 0))) (.sub (.var 1) (.cst (.int 0)))) (.bin .mul (.sub (.var 0) (.cst (.int 1))) (.sub (.var 1) (.cst (.int 1))))) (.bin .mul (.sub (.var 0) (.cst (.int 2))) (.sub (.var 1) (.cst (.int 2))))))
  .nil)
def f22_l0 : Mi.Sx := (.cons (.iff (.tr (.cmp .ne (.call 21 (.cons (.var 3) (.cons (.var 1) .nil))) (.call 21 (.cons (.var 3) (.cons (.var 2) .nil)))))
  (.cons (.ret (.cmp .lt (.call 21 (.cons (.var 3) (.cons (.var 1) .nil))) (.call 21 (.cons (.var 3) (.cons (.var 2) .nil)))))
  .nil)
  .nil)
  .nil)
def f22_l1 : Mi.Sx := .forr (.nm 3) (.itSeq (.var 0))
  f22_l0
/-- 22: _law_ahead(forms, x, y) -/
def f22 : Mi.Fn where
  np := 3
  nn := 4
  body := (.cons f22_l1
  (.cons (.ret (.cmp .lt (.sub (.var 1) (.cst (.int 3))) (.sub (.var 2) (.cst (.int 3)))))
  .nil))
def f23_l0 : Mi.Sx := (.cons (.exp (.mth .append (.var 2) (.cons (.bin .mod (.fn .int (.cons (.var 3) .nil)) (.cst (.int 1000))) .nil)))
  .nil)
def f23_l1 : Mi.Sx := .forr (.nm 3) (.itSeq (.slc (.var 0) (.cons (.cst (.int 1)) .nil) (.cons (.cst (.int 63)) .nil)))
  f23_l0
/-- 23: _law_draws(script, many) -/
def f23 : Mi.Fn where
  np := 2
  nn := 4
  body := (.cons (.set 2 (.call 18 (.cons (.call 17 (.cons (.var 0) (.cons (.cst (.int 0)) .nil))) (.cons (.var 1) .nil))))
  (.cons f23_l1
  (.cons (.ret (.var 2))
  .nil)))
def f24_l0 : Mi.Sx := (.cons (.exp (.mth .append (.var 5) (.cons (.bin .sub (.call 19 (.cons (.var 0) (.cons (.var 3) .nil))) (.call 19 (.cons (.var 0) (.cons (.var 3) .nil)))) .nil)))
  .nil)
def f24_l1 : Mi.Sx := .forr (.nm 6) (.itRng1 (.cst (.int 3)))
  f24_l0
def f24_l2 : Mi.Sx := (.cons (.set 5 (.lst .nil))
  (.cons f24_l1
  (.cons (.exp (.mth .append (.var 2) (.cons (.tup (.cons (.sub (.var 5) (.cst (.int 0))) (.cons (.sub (.var 5) (.cst (.int 1))) (.cons (.sub (.var 5) (.cst (.int 2))) (.cons (.sub (.lst (.cons (.cst (.int 4)) (.cons (.cst (.int 0)) (.cons (.cst (.int 9)) (.cons (.cst (.int 2)) (.cons (.cst (.int 7)) (.cons (.cst (.int 1)) .nil))))))) (.var 4)) .nil))))) .nil)))
  .nil)))
def f24_l3 : Mi.Sx := .forr (.nm 4) (.itRng1 (.var 1))
  f24_l2
/-- 24: _law_views(row, many) -/
def f24 : Mi.Fn where
  np := 2
  nn := 7
  body := (.cons (.set 2 (.lst .nil))
  (.cons (.set 3 (.sub (.lst (.cons (.cst (.int 1000)) (.cons (.cst (.int 1000)) (.cons (.cst (.int 3)) .nil)))) (.call 19 (.cons (.var 0) (.cons (.cst (.int 3)) .nil)))))
  (.cons f24_l3
  (.cons (.ret (.var 2))
  .nil))))
def f25_e0 : Mi.E := .lc [3] (.nm 3) (.itSeq (.var 1)) (.cons (.and (.cons (.tr (.cmp .ne (.sub (.var 3) (.cst (.int 3))) (.sub (.var 2) (.cst (.int 3))))) (.cons (.tr (.call 22 (.cons (.var 0) (.cons (.var 3) (.cons (.var 2) .nil))))) .nil))) .nil) (.var 3)
/-- 25: _law_rank(forms, views, view) -/
def f25 : Mi.Fn where
  np := 3
  nn := 4
  body := (.cons (.ret (.fn .len (.cons f25_e0 .nil)))
  .nil)
def f26_l0 : Mi.Sx := (.cons (.iff (.tr (.cmp .eq (.call 25 (.cons (.var 0) (.cons (.var 1) (.cons (.var 4) .nil)))) (.var 3)))
  (.cons (.exp (.mth .append (.var 2) (.cons (.sub (.var 4) (.cst (.int 3))) .nil)))
  .nil)
  .nil)
  .nil)
def f26_l1 : Mi.Sx := .forr (.nm 4) (.itSeq (.var 1))
  f26_l0
def f26_l2 : Mi.Sx := (.cons f26_l1
  .nil)
def f26_l3 : Mi.Sx := .forr (.nm 3) (.itRng1 (.fn .len (.cons (.var 1) .nil)))
  f26_l2
/-- 26: _law_numbers(forms, views) -/
def f26 : Mi.Fn where
  np := 2
  nn := 5
  body := (.cons (.set 2 (.lst .nil))
  (.cons f26_l3
  (.cons (.ret (.fn .tuple (.cons (.var 2) .nil)))
  .nil)))
def f27_l0 : Mi.Sx := (.cons (.exp (.mth .append (.var 2) (.cons (.tup (.cons (.bin .add (.slc (.sub (.var 0) (.cst (.int 0))) .nil (.cons (.cst (.int 2)) .nil)) (.tup (.cons (.var 3) .nil))) (.cons (.sub (.var 0) (.cst (.int 1))) (.cons (.sub (.var 0) (.cst (.int 2))) .nil)))) .nil)))
  .nil)
def f27_l1 : Mi.Sx := .forr (.nm 3) (.itSeq (.lst (.cons (.tup (.cons (.cst (.int 3)) (.cons (.cst (.int 0)) (.cons (.cst (.int 0)) .nil)))) (.cons (.tup (.cons (.cst (.int 0)) (.cons (.neg (.cst (.int 3))) (.cons (.cst (.int 0)) .nil)))) (.cons (.tup (.cons (.cst (.int 0)) (.cons (.cst (.int 0)) (.cons (.cst (.int 3)) .nil)))) (.cons (.tup (.cons (.cst (.int 1)) (.cons (.cst (.int 0)) .nil))) (.cons (.tup (.cons (.cst (.int 1)) (.cons (.cst (.int 0)) (.cons (.cst (.int 0)) (.cons (.cst (.int 0)) .nil))))) (.cons (.tup (.cons (.cst (.bl true)) (.cons (.cst (.int 0)) (.cons (.cst (.int 0)) .nil)))) (.cons (.cst (.str "abc")) (.cons (.cst .non) .nil))))))))))
  f27_l0
/-- 27: _law_bad_kernels(kernel) -/
def f27 : Mi.Fn where
  np := 1
  nn := 4
  body := (.cons (.set 1 (.tup (.cons (.tup (.cons (.cst (.int 1)) (.cons (.cst (.int 0)) (.cons (.cst (.int 0)) .nil)))) (.cons (.tup (.cons (.cst (.int 0)) (.cons (.cst (.int 1)) (.cons (.cst (.int 0)) .nil)))) (.cons (.tup (.cons (.cst (.int 0)) (.cons (.cst (.int 0)) (.cons (.cst (.int 1)) .nil)))) (.cons (.tup (.cons (.cst (.int 1)) (.cons (.cst (.int 1)) (.cons (.cst (.int 1)) .nil)))) .nil))))))
  (.cons (.set 2 (.lst (.cons (.tup (.cons (.var 1) (.cons (.sub (.var 0) (.cst (.int 1))) (.cons (.sub (.var 0) (.cst (.int 2))) .nil)))) (.cons (.tup (.cons (.tup (.cons (.tup (.cons (.cst (.int 0)) (.cons (.cst (.int 0)) (.cons (.cst (.int 0)) .nil)))) .nil)) (.cons (.sub (.var 0) (.cst (.int 1))) (.cons (.sub (.var 0) (.cst (.int 2))) .nil)))) (.cons (.tup (.cons (.sub (.var 0) (.cst (.int 0))) (.cons (.cst (.int 1)) (.cons (.sub (.var 0) (.cst (.int 2))) .nil)))) (.cons (.cst .non) (.cons (.tup .nil) .nil)))))))
  (.cons (.set 2 (.bin .add (.var 2) (.lst (.cons (.tup (.cons (.sub (.var 0) (.cst (.int 0))) (.cons (.sub (.var 0) (.cst (.int 1))) (.cons (.cst (.int 3)) .nil)))) (.cons (.tup (.cons (.sub (.var 0) (.cst (.int 0))) (.cons (.sub (.var 0) (.cst (.int 1))) (.cons (.neg (.cst (.int 1))) .nil)))) (.cons (.tup (.cons (.sub (.var 0) (.cst (.int 0))) (.cons (.sub (.var 0) (.cst (.int 1))) .nil))) (.cons (.tup (.cons (.sub (.var 0) (.cst (.int 0))) (.cons (.sub (.var 0) (.cst (.int 1))) (.cons (.cst (.bl true)) .nil)))) .nil)))))))
  (.cons f27_l1
  (.cons (.ret (.var 2))
  .nil)))))
def f28_l0 : Mi.Sx := (.cons (.iff (.tr (.cmp .ne (.call 14 (.cons (.var 5) (.cons (.sub (.var 0) (.cst (.int 1))) (.cons (.sub (.var 0) (.cst (.int 2))) .nil)))) (.tup (.cons (.sub (.var 4) (.var 5)) (.cons (.sub (.var 0) (.cst (.int 1))) (.cons (.sub (.var 0) (.cst (.int 2))) .nil))))))
  (.cons (.ret (.cst (.bl false)))
  .nil)
  .nil)
  .nil)
def f28_l1 : Mi.Sx := .forr (.nm 5) (.itSeq (.lst (.cons (.cst (.str "levels")) (.cons (.cst (.str "due")) (.cons (.cst (.str "came")) (.cons (.cst (.str "bounds")) (.cons (.cst (.str "numbers")) .nil)))))))
  f28_l0
def f28_l2 : Mi.Sx := (.cons (.iff (.tr (.cmp .isnot (.call 10 (.cons (.var 3) .nil)) (.cst (.bl false))))
  (.cons (.ret (.cst (.bl false)))
  .nil)
  .nil)
  .nil)
def f28_l3 : Mi.Sx := .forr (.nm 3) (.itSeq (.call 27 (.cons (.var 0) .nil)))
  f28_l2
def f28_e4 : Mi.E := .lc [2] (.nm 2) (.itSeq (.sub (.var 0) (.cst (.int 0)))) .nil (.fn .list (.cons (.var 2) .nil))
/-- 28: _law_kernels_told(kernel) -/
def f28 : Mi.Fn where
  np := 1
  nn := 6
  body := (.cons (.set 1 (.lst (.cons f28_e4 (.cons (.sub (.var 0) (.cst (.int 1))) (.cons (.sub (.var 0) (.cst (.int 2))) .nil)))))
  (.cons (.iff (.or (.cons (.tr (.cmp .isnot (.call 10 (.cons (.var 0) .nil)) (.cst (.bl true)))) (.cons (.tr (.cmp .isnot (.call 10 (.cons (.fn .list (.cons (.var 1) .nil)) .nil)) (.cst (.bl true)))) (.cons (.tr (.cmp .ne (.call 11 (.cons (.fn .list (.cons (.var 1) .nil)) .nil)) (.var 0))) .nil))))
  (.cons (.ret (.cst (.bl false)))
  .nil)
  .nil)
  (.cons f28_l3
  (.cons (.set 4 (.dsp ["levels", "due", "came", "bounds", "numbers"] (.cons (.tup (.cons (.tup (.cons (.cst (.int 1)) (.cons (.cst (.int 0)) (.cons (.cst (.int 0)) .nil)))) .nil)) (.cons (.tup (.cons (.tup (.cons (.cst (.int 0)) (.cons (.cst (.int 1)) (.cons (.cst (.int 1)) .nil)))) .nil)) (.cons (.tup (.cons (.tup (.cons (.cst (.int 0)) (.cons (.cst (.int 1)) (.cons (.cst (.int 0)) .nil)))) .nil)) (.cons (.tup (.cons (.tup (.cons (.cst (.int 0)) (.cons (.cst (.int 0)) (.cons (.cst (.int 1)) .nil)))) .nil)) (.cons (.tup .nil) .nil)))))))
  (.cons f28_l1
  (.cons (.ret (.cst (.bl true)))
  .nil))))))
def f29_l0 : Mi.Sx := (.cons (.iff (.or (.cons (.not (.tr (.isi (.var 12) .tuple))) (.cons (.tr (.cmp .ne (.var 12) (.var 10))) (.cons (.not (.tr (.call 16 (.cons (.sub (.var 12) (.cst (.int 0))) .nil)))) .nil))))
  (.cons (.ret (.cst (.bl false)))
  .nil)
  .nil)
  .nil)
def f29_l1 : Mi.Sx := .forr (.nm 12) (.itSeq (.lst (.cons (.call 13 (.cons (.var 2) (.cons (.var 4) .nil))) (.cons (.call 13 (.cons (.var 3) (.cons (.fn .tuple (.cons (.var 6) .nil)) .nil))) (.cons (.call 13 (.cons (.var 2) (.cons (.rev (.var 4)) .nil))) .nil)))))
  f29_l0
def f29_l2 : Mi.Sx := (.cons (.iff (.tr (.cmp .ne (.var 8) (.var 9)))
  (.cons (.set 10 (.call 22 (.cons (.sub (.var 2) (.cst (.int 0))) (.cons (.sub (.var 4) (.var 8)) (.cons (.sub (.var 4) (.var 9)) .nil)))))
  (.cons (.iff (.or (.cons (.not (.tr (.call 15 (.cons (.call 12 (.cons (.var 2) (.cons (.sub (.var 4) (.var 8)) (.cons (.sub (.var 4) (.var 9)) .nil)))) (.cons (.var 10) .nil))))) (.cons (.not (.tr (.call 15 (.cons (.call 12 (.cons (.var 3) (.cons (.sub (.var 6) (.var 8)) (.cons (.sub (.var 6) (.var 9)) .nil)))) (.cons (.var 10) .nil))))) .nil)))
  (.cons (.ret (.cst (.bl false)))
  .nil)
  .nil)
  .nil))
  .nil)
  .nil)
def f29_l3 : Mi.Sx := .forr (.nm 9) (.itRng1 (.fn .len (.cons (.var 4) .nil)))
  f29_l2
def f29_l4 : Mi.Sx := (.cons f29_l3
  .nil)
def f29_l5 : Mi.Sx := .forr (.nm 8) (.itRng1 (.fn .len (.cons (.var 4) .nil)))
  f29_l4
def f29_e6 : Mi.E := .lc [7] (.nm 7) (.itSeq (.var 4)) .nil (.tup (.cons (.sub (.var 7) (.cst (.int 0))) (.cons (.bin .add (.sub (.var 7) (.cst (.int 1))) (.var 5)) (.cons (.sub (.var 7) (.cst (.int 2))) (.cons (.sub (.var 7) (.cst (.int 3))) .nil)))))
/-- 29: law(script) -/
def f29 : Mi.Fn where
  np := 1
  nn := 13
  body := (.cons (.set 1 (.call 23 (.cons (.var 0) (.cons (.cst (.int 60)) .nil))))
  (.cons (.set 2 (.call 20 (.cons (.var 1) .nil)))
  (.cons (.set 3 (.tup (.cons (.sub (.var 2) (.cst (.int 0))) (.cons (.not (.sub (.var 2) (.cst (.int 1)))) (.cons (.bin .mod (.fn .int (.cons (.bin .add (.sub (.var 2) (.cst (.int 2))) (.cst (.int 1))) .nil)) (.cst (.int 3))) .nil)))))
  (.cons (.set 4 (.call 24 (.cons (.var 1) (.cons (.bin .add (.cst (.int 2)) (.call 19 (.cons (.var 1) (.cons (.cst (.int 5)) .nil)))) .nil))))
  (.cons (.set 5 (.bin .sub (.call 19 (.cons (.var 1) (.cons (.cst (.int 1000)) .nil))) (.call 19 (.cons (.var 1) (.cons (.cst (.int 1000)) .nil)))))
  (.cons (.set 6 f29_e6)
  (.cons f29_l5
  (.cons (.set 10 (.call 26 (.cons (.sub (.var 2) (.cst (.int 0))) (.cons (.var 4) .nil))))
  (.cons (.set 11 (.fn .list (.cons (.var 4) .nil)))
  (.cons f29_l1
  (.cons (.ret (.and (.cons (.call 28 (.cons (.var 2) .nil)) (.cons (.cmp .eq (.var 4) (.var 11)) (.cons (.cmp .eq (.call 13 (.cons (.var 2) (.cons (.lst .nil) .nil))) (.tup .nil)) (.cons (.cmp .eq (.call 13 (.cons (.var 2) (.cons (.lst (.cons (.sub (.var 4) (.cst (.int 0))) .nil)) .nil))) (.tup (.cons (.cst (.int 4)) .nil))) .nil))))))
  .nil)))))))))))
def tab : List Mi.Fn := [f0, f1, f2, f3, f4, f5, f6, f7, f8, f9, f10, f11, f12, f13, f14, f15, f16, f17, f18, f19, f20, f21, f22, f23, f24, f25, f26, f27, f28, f29]
def nms : List (Str × List Str) := [("_is_int", []), ("_is_seq", []), ("_in", []), ("_form", []), ("_kernel", []), ("_need_kernel", []), ("_view", []), ("_worth", []), ("_rank", []), ("_is_ahead", []), ("is_kernel", []), ("kernel_of", []), ("ahead", []), ("in_order", []), ("named", ["preempts", "protocol"]), ("_law_says", []), ("_law_is_integer", []), ("_law_cell", []), ("_law_row", []), ("_law_take", []), ("_law_kernel", []), ("_law_worth", []), ("_law_ahead", []), ("_law_draws", []), ("_law_views", []), ("_law_rank", []), ("_law_numbers", []), ("_law_bad_kernels", []), ("_law_kernels_told", []), ("law", [])]
def Ns : List (List Str) := [["value"],
  ["value"],
  ["value", "low", "high"],
  ["value"],
  ["value", "rows", "preempts", "protocol", "forms"],
  ["value", "at", "kernel"],
  ["value"],
  ["form", "view"],
  ["kernel", "view"],
  ["kernel", "x", "y"],
  ["value"],
  ["kernel"],
  ["kernel", "x", "y", "one", "other"],
  ["kernel", "views", "made", "view"],
  ["name", "preempts", "protocol"],
  ["told", "due"],
  ["actual"],
  ["script", "k"],
  ["cell", "many", "row", "k", "seed"],
  ["row", "many"],
  ["row", "forms", "k", "form"],
  ["form", "view"],
  ["forms", "x", "y", "form"],
  ["script", "many", "row", "cell"],
  ["row", "many", "views", "wide", "k", "part", "j"],
  ["forms", "views", "view", "other"],
  ["forms", "views", "due", "k", "view"],
  ["kernel", "full", "bad", "form"],
  ["kernel", "loose", "form", "bad", "forms", "name"],
  ["script", "row", "kernel", "other", "views", "shift", "moved", "view", "i", "j", "due", "kept", "told"]]
def Ps : List (List Str) := [["value"],
  ["value"],
  ["value", "low", "high"],
  ["value"],
  ["value"],
  ["value", "at"],
  ["value"],
  ["form", "view"],
  ["kernel", "view"],
  ["kernel", "x", "y"],
  ["value"],
  ["kernel"],
  ["kernel", "x", "y"],
  ["kernel", "views"],
  ["name", "preempts", "protocol"],
  ["told", "due"],
  ["actual"],
  ["script", "k"],
  ["cell", "many"],
  ["row", "many"],
  ["row"],
  ["form", "view"],
  ["forms", "x", "y"],
  ["script", "many"],
  ["row", "many"],
  ["forms", "views", "view"],
  ["forms", "views"],
  ["kernel"],
  ["kernel"],
  ["script"]]
def gs : Mi.Gcs := [("_FORMS", .dic _FORMS_kv)]
def tops : List Nat := [4, 5, 6, 9, 10, 11, 12, 13, 14, 15, 16, 17, 18, 19, 20, 22, 23, 24, 25, 26, 27, 28, 29, 30, 31, 32, 33, 34, 35, 36]
def others : List Str := ["TickError", "BadValue", "_FORMS"]

abbrev P : Program := PySem.Challenge.pw_tickhold_k01_one_order
def stAt (i : Nat) : Stmt := P.main.body.getD i (.Pass ⟨0, 0, 0, 0⟩)
def ddOf (t : Nat) (N ps : List Str) : Mi.Dd := ⟨C8.fnArgs (stAt t), C8.fnBody (stAt t), C8.fnScope (stAt t), N, ps⟩
def dds : List Mi.Dd := (tops.zip (Ns.zip Ps)).map fun p => ddOf p.1 p.2.1 p.2.2
def okAt (i : Nat) : Bool := match nms[i]?, tab[i]?, dds[i]? with
  | some p, some f, some d => Mi.ddB (Mi.allN nms gs) f d && Mi.bindB p.2 d
  | _, _, _ => false
end K01
set_option autoImplicit true
set_option Elab.async false
set_option linter.all false
set_option maxRecDepth 100000
set_option maxHeartbeats 0
/-! K01H: the head. -/
namespace K01
open PySem PySem.Spec PyProof.Rows L2
abbrev R : PySem.W.OpenRow := PySem.W.OpenLaw.row PySem.Challenge.rw_tickhold_k01_one_order
abbrev hk : PySem.W.Hook := He.hookX 5 (Mi.faL nms) (Mi.fnL nms dds) (Mi.tabL gs) (Mi.tfL nms) (Mi.exB gs)
def ob (s : PySem.W.SharedT) : He.AlX := He.obsX 5 (Mi.faL nms) (Mi.fnL nms dds) (Mi.tabL gs) (Mi.tfL nms) (Mi.exB gs) (HandSHeadRun.getT s)
theorem ob_eq (s : PySem.W.SharedT) : ob s = hk.obs s.abs := He.obsX_eq (HandSHeadRun.getT_eq s)
def lawTop : Nat := tops.getLastD 0
def loose : List Str := (nms.map (·.1)).dropLast ++ others
theorem run : ∀ w : World, HandSHeadRun.RunEq R (PySem.W.view R.prog [lawTop]) hk ob 4000 loose w :=
  PySem.W.byRow2 "special-get-raises" (fun w => by intro os; kernel_rfl) (fun w => by intro os; kernel_rfl)
theorem allOk : Mi.allB nms (Mi.allN nms gs) tab dds = true := by decide +kernel
theorem kws : ∀ p ∈ nms, Mi.kwB p.2 = true := by decide +kernel
end K01
set_option autoImplicit true
set_option Elab.async false
set_option linter.all false
set_option maxRecDepth 100000
set_option maxHeartbeats 4000000
set_option autoImplicit false
/-! K01M: what the functions of the kernels compute. -/
namespace K01
open Mi
abbrev gd : List Gv := gs.map (·.2)
noncomputable abbrev FF (n : Nat) : Orc := F tab gd n
def isIntD : D → Bool | .int _ => true | _ => false
def isBlD : D → Bool | .bl _ => true | _ => false
def isNonD : D → Bool | .non => true | _ => false
def inR (lo hi : Int) : D → Bool | .int i => decide (lo ≤ i) && decide (i ≤ hi) | _ => false
def isSeqD : D → Bool | .tup _ => true | .ref _ => true | _ => false
/-- a datum whose list stands -/
def okD (S : Store) (d : D) : Prop := ∀ n, d = .ref n → listAt S n ≠ none
theorem isInt {n : Nat} {d : D} {S : Store} (h : okD S d) : FF (n + 1) 0 [d] S = .ok (.bl (isIntD d)) S := by
  rw [FF, Mi.F_def (f := f0) rfl]
  cases d with
  | ref k =>
    obtain ⟨xs, e⟩ := Option.ne_none_iff_exists'.mp (h k rfl)
    simp [runFn, f0, exec, ev, evs, evAnd, isiD, truthD, e, isIntD]
  | _ => simp [runFn, f0, exec, ev, evs, evAnd, isiD, truthD, isIntD]
theorem isSeq {n : Nat} {d : D} {S : Store} (h : okD S d) : FF (n + 1) 1 [d] S = .ok (.bl (isSeqD d)) S := by
  rw [FF, Mi.F_def (f := f1) rfl]
  cases d with
  | ref k =>
    obtain ⟨xs, e⟩ := Option.ne_none_iff_exists'.mp (h k rfl)
    simp [runFn, f1, exec, ev, evs, evOr, isiD, truthD, e, isSeqD]
  | _ => simp [runFn, f1, exec, ev, evs, evOr, isiD, truthD, isSeqD]
theorem inn {n : Nat} {d : D} {lo hi : Int} {S : Store} (h : okD S d) : FF (n + 2) 2 [d, .int lo, .int hi] S = .ok (.bl (inR lo hi d)) S := by
  rw [FF, Mi.F_def (f := f2) rfl]
  cases d with
  | int i =>
    by_cases h1 : lo ≤ i <;> simp [runFn, f2, exec, ev, evs, evAnd, isInt h, isIntD, cmpD, inR, h1]
  | _ => simp [runFn, f2, exec, ev, evs, evAnd, isInt h, isIntD, cmpD, inR]
theorem seq_cases {S : Store} {d : D} (h : okD S d) : (isSeqD d = false ∧ seqOf S d = none) ∨ ∃ ds, isSeqD d = true ∧ seqOf S d = some ds := by
  cases d with
  | tup ds => exact .inr ⟨ds, rfl, rfl⟩
  | ref k =>
    obtain ⟨xs, e⟩ := Option.ne_none_iff_exists'.mp (h k rfl)
    exact .inr ⟨xs, rfl, e⟩
  | _ => exact .inl ⟨rfl, rfl⟩
theorem len_seq {S : Store} {d : D} {ds : List D} (h : seqOf S d = some ds) : fnD .len [d] S = .ok (.int ds.length) S := by
  cases d with
  | tup es => cases h; rfl
  | ref k => have h : listAt S k = some ds := h; simp [fnD, h]
  | _ => cases h
theorem items_seq {S : Store} {d : D} {ds : List D} (h : seqOf S d = some ds) : ∃ g, itemsOf S d = some (g, ds) ∧ still g S := by
  cases d with
  | tup es => cases h; exact ⟨none, rfl, trivial⟩
  | ref k => have h : listAt S k = some ds := h; exact ⟨some (k, ds), by simp [itemsOf, h], h⟩
  | _ => cases h
def formOk (ds : List D) : Bool := (ds.length == 3) && ds.all (inR (-2) 2) && !(ds.all fun d => match d with | .int i => i == 0 | _ => false)
def formR (S : Store) (d : D) : D := match seqOf S d with
  | some ds => if formOk ds = true then .tup ds else .non
  | none => .non
/-- a sequence whose items stand -/
structure okS (S : Store) (d : D) : Prop where
  ok : okD S d
  el : ∀ ds, seqOf S d = some ds → ∀ e ∈ ds, okD S e
  len : ∀ ds, seqOf S d = some ds → ds.length ≤ PySem.sizeLine
theorem itSeq_ok {Φ : Orc} {ρ : Mi.Env} {S : Store} {i : Nat} {d : D} {ds : List D} (hi : ρ[i]? = some (some d)) (h : seqOf S d = some ds) : ∃ g, evIt Φ (.itSeq (.var i)) ρ S = .ok (g, ds) S ∧ still g S := by
  obtain ⟨g, h1, h2⟩ := items_seq h
  exact ⟨g, by simp [evIt, ev, hi, h1], h2⟩
def zeroD : D → Bool | .int i => i == 0 | _ => false
theorem form {n : Nat} {d : D} {S : Store} (h : okS S d) : FF (n + 3) 3 [d] S = .ok (formR S d) S := by
  rw [FF, Mi.F_def (f := f3) rfl]
  rcases seq_cases h.ok with ⟨h1, h2⟩ | ⟨ds, h1, h2⟩
  · simp [runFn, f3, exec, ev, evs, evT, evAny, isSeq (n := n + 1) h.ok, h1, truthD, formR, h2]
  · obtain ⟨g, hg, hs⟩ := itSeq_ok (Φ := FF (n + 2)) (ρ := [some d]) (i := 0) rfl h2
    have e1 : ev (FF (n + 2)) f3_e1 [some d] S = .ok (.bl (ds.all (inR (-2) 2))) S := ev_gall hg hs fun x hx => by
      simp [gstep, asg, evAll, ev, evs, inn (n := n) (h.el ds h2 x hx)]
    have e0 : ds.all (inR (-2) 2) = true → ev (FF (n + 2)) f3_e0 [some d] S = .ok (.bl (ds.all zeroD)) S := fun ha => ev_gall hg hs fun x hx => by
      have := List.all_eq_true.mp ha x hx
      cases x with
      | int i => simp [gstep, asg, evAll, ev, cmpD, peq_int, zeroD]
      | _ => cases this
    have ef : formR S d = if formOk ds = true then .tup ds else .non := by unfold formR; rw [h2]
    rw [ef]
    by_cases hl : ds.length = 3
    · cases ha : ds.all (inR (-2) 2) with
      | false =>
        have : formOk ds = false := by simp [formOk, ha]
        simp [runFn, f3, exec, ev, evs, evT, evAny, isSeq (n := n + 1) h.ok, h1, truthD, len_seq h2, cmpD, peq_int, hl, e1, ha, this]
      | true =>
        have e2 : formOk ds = !(ds.all zeroD) := by
          simp only [formOk, ha, hl, beq_self_eq_true, Bool.true_and]
          rfl
        have e3 : fnD .tuple [d] S = .ok (.tup ds) S := by simp [fnD, h2]
        cases hz : ds.all zeroD <;> simp [runFn, f3, exec, ev, evs, evT, evAny, isSeq (n := n + 1) h.ok, h1, truthD, len_seq h2, cmpD, peq_int, hl, e1, ha, e0 ha, e2, hz, e3]
    · have : formOk ds = false := by simp [formOk, hl]
      have h3 : ((ds.length : Int) == 3) = false := by simpa using (by omega : ¬ (ds.length : Int) = 3)
      simp [runFn, f3, exec, ev, evs, evT, evAny, isSeq (n := n + 1) h.ok, h1, truthD, len_seq h2, cmpD, peq_int, h3, this]
def kernR (S : Store) (d : D) : D := match seqOf S d with
  | some [rows, pre, pro] => (match seqOf S rows with
    | some rs => if rs.length ≤ 3 then (if (rs.map (formR S)).any isNonD = true then .non else if (isBlD pre && inR 0 2 pro) = true then .tup [.tup (rs.map (formR S)), pre, pro] else .non) else .non
    | none => .non)
  | _ => .non
structure okK (S : Store) (d : D) : Prop where
  q : okS S d
  rows : ∀ rows pre pro, seqOf S d = some [rows, pre, pro] → okS S rows ∧ ∀ rs, seqOf S rows = some rs → ∀ r ∈ rs, okS S r
theorem isi_bool {S : Store} {d : D} (h : okD S d) : isiD S d .bool = some (isBlD d) := by
  cases d with
  | ref k =>
    obtain ⟨xs, e⟩ := Option.ne_none_iff_exists'.mp (h k rfl)
    simp [isiD, e, isBlD]
  | _ => simp [isiD, isBlD]
theorem isD_non (d : D) (hb : isBlD d = false) : isD d .non = some (isNonD d) := by
  cases d <;> first | rfl | cases hb
theorem form_nbl (S : Store) (d : D) : isBlD (formR S d) = false := by
  unfold formR
  split
  · split <;> rfl
  · rfl
theorem z1 : 1 ≤ PySem.sizeLine := by decide
theorem z2 : 2 ≤ PySem.sizeLine := by decide
theorem z3 : 3 ≤ PySem.sizeLine := by decide
theorem z4 : 4 ≤ PySem.sizeLine := by decide
theorem kern {n : Nat} {d : D} {S : Store} (h : okK S d) : FF (n + 4) 4 [d] S = .ok (kernR S d) S := by
  rw [FF, Mi.F_def (f := f4) rfl]
  rcases seq_cases h.q.ok with ⟨h1, h2⟩ | ⟨ds, h1, h2⟩
  · simp [runFn, f4, exec, ev, evs, evT, evAny, isSeq (n := n + 2) h.q.ok, h1, truthD, kernR, h2]
  · by_cases hl : ds.length = 3
    · match ds, hl, h2 with
      | [rows, pre, pro], _, h2 =>
      obtain ⟨hr, he⟩ := h.rows rows pre pro h2
      have hpre := h.q.el _ h2 pre (by simp)
      have hpro := h.q.el _ h2 pro (by simp)
      have e0 : kernR S d = (match seqOf S rows with
        | some rs => if rs.length ≤ 3 then (if (rs.map (formR S)).any isNonD = true then .non else if (isBlD pre && inR 0 2 pro) = true then .tup [.tup (rs.map (formR S)), pre, pro] else .non) else .non
        | none => .non) := by unfold kernR; rw [h2]
      rw [e0]
      rcases seq_cases hr.ok with ⟨h3, h4⟩ | ⟨rs, h3, h4⟩
      · simp [runFn, f4, exec, ev, evs, evT, evAny, isSeq (n := n + 2) h.q.ok, isSeq (n := n + 2) hr.ok, h1, h3, truthD, len_seq h2, cmpD, peq_int, h2, setAll, h4]
      · by_cases hl3 : rs.length ≤ 3
        · obtain ⟨g, hg, hs⟩ := itSeq_ok (Φ := FF (n + 3)) (ρ := [some d, some rows, some pre, some pro, none]) (i := 1) rfl h4
          have e1 : ev (FF (n + 3)) f4_e1 [some d, some rows, some pre, some pro, none] S = .ok (.tup (rs.map (formR S))) S := ev_gtup hg hs (hr.len rs h4) fun x hx => by
            simp [gstep, asg, evAll, ev, evs, form (n := n) (he rs h4 x hx)]
          obtain ⟨g', hg', hs'⟩ := itSeq_ok (Φ := FF (n + 3)) (ρ := [some d, some rows, some pre, some pro, some (.tup (rs.map (formR S)))]) (S := S) (i := 4) (ds := rs.map (formR S)) rfl rfl
          have e2 : ev (FF (n + 3)) f4_e0 [some d, some rows, some pre, some pro, some (.tup (rs.map (formR S)))] S = .ok (.bl ((rs.map (formR S)).any isNonD)) S := ev_gany hg' hs' fun x hx => by
            obtain ⟨r, _, rfl⟩ := List.mem_map.mp hx
            simp [gstep, asg, evAll, ev, cmpD, isD_non _ (form_nbl S r)]
          have hl4 : decide ((3 : Int) < rs.length) = false := decide_eq_false (by omega)
          cases hb : (rs.map (formR S)).any isNonD <;> cases hp : isBlD pre <;> cases hq : inR 0 2 pro <;>
            simp [runFn, f4, exec, ev, evs, evT, evAny, isSeq (n := n + 2) h.q.ok, isSeq (n := n + 2) hr.ok, h1, h3, truthD, len_seq h2, len_seq h4, cmpD, peq_int, h2, setAll, h4, hl3, hl4, z3, e1, e2, hb, isi_bool hpre, hp, inn (n := n + 1) hpro, hq]
        · have hl4 : decide ((3 : Int) < rs.length) = true := decide_eq_true (by omega)
          simp [runFn, f4, exec, ev, evs, evT, evAny, isSeq (n := n + 2) h.q.ok, isSeq (n := n + 2) hr.ok, h1, h3, truthD, len_seq h2, len_seq h4, cmpD, peq_int, h2, setAll, h4, hl3, hl4]
    · have h3 : ((ds.length : Int) == 3) = false := by simpa using (by omega : ¬ (ds.length : Int) = 3)
      have e0 : kernR S d = .non := by
        unfold kernR
        rw [h2]
        match ds, hl with
        | [], _ => rfl
        | [_], _ => rfl
        | [_, _], _ => rfl
        | _ :: _ :: _ :: _ :: _, _ => rfl
      simp [runFn, f4, exec, ev, evs, evT, evAny, isSeq (n := n + 2) h.q.ok, h1, truthD, len_seq h2, cmpD, peq_int, h3, e0]
theorem need {n : Nat} {d k : D} {S : Store} (h : okK S d) {a : D} (hk : kernR S d = k) (hn : isNonD k = false) (hb : isBlD k = false) : FF (n + 5) 5 [d, a] S = .ok k S := by
  rw [FF, Mi.F_def (f := f5) rfl]
  simp [runFn, f5, exec, ev, evs, evT, kern (n := n) h, hk, cmpD, isD_non _ hb, hn, truthD]
theorem isKern {n : Nat} {d : D} {S : Store} (h : okK S d) : FF (n + 5) 10 [d] S = .ok (.bl (!isNonD (kernR S d))) S := by
  rw [FF, Mi.F_def (f := f10) rfl]
  have hb : isBlD (kernR S d) = false := by
    unfold kernR
    repeat' split
    all_goals rfl
  simp [runFn, f10, exec, ev, evs, evT, kern (n := n) h, cmpD, isD_non _ hb]
theorem kernOf {n : Nat} {d k : D} {S : Store} (h : okK S d) (hk : kernR S d = k) (hn : isNonD k = false) (hb : isBlD k = false) : FF (n + 6) 11 [d] S = .ok k S := by
  rw [FF, Mi.F_def (f := f11) rfl]
  simp [runFn, f11, exec, ev, evs, need (n := n) h hk hn hb]
/-! ### views -/
/-- a form, a view -/
structure V4 where
  a : Int
  b : Int
  c : Int
  m : Int
def V4.d (v : V4) : D := .tup [.int v.a, .int v.b, .int v.c, .int v.m]
abbrev Fm : Type := Int × Int × Int
def Fm.d (f : Fm) : D := .tup [.int f.1, .int f.2.1, .int f.2.2]
def wor (f : Fm) (v : V4) : Int := f.1 * v.a + f.2.1 * v.b + f.2.2 * v.c
/-- a kernel -/
structure Kn where
  fs : List Fm
  p : Bool
  q : Int
def Kn.d (k : Kn) : D := .tup [.tup (k.fs.map Fm.d), .bl k.p, .int k.q]
structure Kn.ok (k : Kn) : Prop where
  len : k.fs.length ≤ 3
  q : 0 ≤ k.q ∧ k.q ≤ 2
  rng : ∀ f ∈ k.fs, -2 ≤ f.1 ∧ f.1 ≤ 2 ∧ -2 ≤ f.2.1 ∧ f.2.1 ≤ 2 ∧ -2 ≤ f.2.2 ∧ f.2.2 ≤ 2 ∧ f ≠ (0, 0, 0)
theorem okS_tup {S : Store} {ds : List D} (h : ∀ e ∈ ds, okD S e) (hl : ds.length ≤ PySem.sizeLine) : okS S (.tup ds) := ⟨(fun n e => by cases e), (fun es e => by cases e; exact h), (fun es e => by cases e; exact hl)⟩
theorem okD_int (S : Store) (i : Int) : okD S (.int i) := fun n e => by cases e
theorem okD_bl (S : Store) (b : Bool) : okD S (.bl b) := fun n e => by cases e
theorem okD_tup (S : Store) (ds : List D) : okD S (.tup ds) := fun n e => by cases e
theorem view {n : Nat} {v : V4} {S : Store} : FF (n + 3) 6 [v.d] S = .ok v.d S := by
  rw [FF, Mi.F_def (f := f6) rfl]
  obtain ⟨d, hd⟩ : ∃ d, d = v.d := ⟨_, rfl⟩
  have h2 : seqOf S d = some [.int v.a, .int v.b, .int v.c, .int v.m] := by rw [hd]; rfl
  have e3 : fnD .tuple [d] S = .ok d S := by rw [hd]; rfl
  have e4 : isSeqD d = true := by rw [hd]; rfl
  have ho : okD S d := by rw [hd]; exact okD_tup S _
  rw [← hd]
  obtain ⟨g, hg, hs⟩ := itSeq_ok (Φ := FF (n + 2)) (ρ := [some d]) (i := 0) rfl h2
  have e1 : ev (FF (n + 2)) f6_e0 [some d] S = .ok (.bl ([D.int v.a, .int v.b, .int v.c, .int v.m].all isIntD)) S := ev_gall hg hs fun x hx => by
    have ho : okD S x := by
      simp at hx
      rcases hx with rfl | rfl | rfl | rfl <;> exact okD_int S _
    simp [gstep, asg, evAll, ev, evs, isInt (n := n + 1) ho]
  simp [runFn, f6, exec, ev, evs, evT, evAny, isSeq (n := n + 1) ho, e4, truthD, len_seq h2, cmpD, peq_int, e1, e3, isIntD]
theorem worth {n : Nat} {f : Fm} {v : V4} {S : Store} (hf : -2 ≤ f.1 ∧ f.1 ≤ 2 ∧ -2 ≤ f.2.1 ∧ f.2.1 ≤ 2 ∧ -2 ≤ f.2.2 ∧ f.2.2 ≤ 2) : FF (n + 1) 7 [f.d, v.d] S = .ok (.int (wor f v)) S := by
  rw [FF, Mi.F_def (f := f7) rfl]
  have b1 : big64 f.1 = true := decide_eq_true (by omega)
  have b2 : big64 f.2.1 = true := decide_eq_true (by omega)
  have b3 : big64 f.2.2 = true := decide_eq_true (by omega)
  simp [runFn, f7, exec, ev, evs, subD, Fm.d, V4.d, seqOf, L2.atI, L2.ixN, binD, b1, b2, b3, wor]
theorem rank {n : Nat} {k : Kn} (hk : k.ok) {v : V4} {S : Store} : FF (n + 2) 8 [k.d, v.d] S = .ok (.tup (k.fs.map (fun f => .int (wor f v)) ++ [.int v.m])) S := by
  rw [FF, Mi.F_def (f := f8) rfl]
  have e1 : ev (FF (n + 1)) f8_e0 [some k.d, some v.d] S = .ok (.tup ((k.fs.map Fm.d).map fun x => match x with | .tup [.int a, .int b, .int c] => .int (wor (a, b, c) v) | _ => .non)) S := by
    refine ev_gtup (gi := none) (xs := k.fs.map Fm.d) ?_ trivial (by rw [List.length_map]; have := hk.len; have := z4; omega) fun x hx => ?_
    · simp [evIt, ev, Kn.d, subD, seqOf, L2.atI, L2.ixN, itemsOf]
    · obtain ⟨f, hf, rfl⟩ := List.mem_map.mp hx
      obtain ⟨r1, r2, r3, r4, r5, r6, _⟩ := hk.rng f hf
      simp [gstep, asg, evAll, ev, evs, worth (n := n) (v := v) (f := f) (S := S) ⟨r1, r2, r3, r4, r5, r6⟩]
      rfl
  have e2 : ((k.fs.map Fm.d).map fun x => match x with | .tup [.int a, .int b, .int c] => D.int (wor (a, b, c) v) | _ => .non) = k.fs.map (fun f => D.int (wor f v)) := by
    rw [List.map_map]
    rfl
  rw [e2] at e1
  have hl : k.fs.length + 1 ≤ PySem.sizeLine := by have := hk.len; have := z4; omega
  have e3 : subD v.d (.int 3) S = some (.int v.m) := by simp [subD, V4.d, seqOf, L2.atI, L2.ixN]
  simp [runFn, f8, exec, ev, evs, e1, e3, binD, z1, hl]
/-- the rank: worths, then the number -/
def rk (k : Kn) (v : V4) : List Int := k.fs.map (fun f => wor f v) ++ [v.m]
theorem rank' {n : Nat} {k : Kn} (hk : k.ok) {v : V4} {S : Store} : FF (n + 2) 8 [k.d, v.d] S = .ok (.tup ((rk k v).map .int)) S := by
  rw [rank hk]
  unfold rk
  rw [List.map_append, List.map_map]
  rfl
theorem dInts_map : ∀ is : List Int, dInts (is.map .int) = some is
  | [] => rfl
  | i :: is => by
    show (dInts (is.map D.int)).map (i :: ·) = _
    rw [dInts_map is]
    rfl
theorem isAhead {n : Nat} {k : Kn} (hk : k.ok) {x y : V4} {S : Store} : FF (n + 3) 9 [k.d, x.d, y.d] S = .ok (.bl (HT.lexLt (rk k x) (rk k y))) S := by
  rw [FF, Mi.F_def (f := f9) rfl]
  simp [runFn, f9, exec, ev, evs, rank' (n := n) hk, cmpD, plt, dInts_map]
/-- a right kernel is what it is -/
theorem kern_self {k : Kn} (hk : k.ok) (S : Store) : okK S k.d ∧ kernR S k.d = k.d := by
  have hz : k.fs.length ≤ PySem.sizeLine := by have := hk.len; have := z4; omega
  have hf : ∀ f : Fm, okS S f.d := fun f => okS_tup (fun e he => by simp at he; rcases he with rfl | rfl | rfl <;> exact okD_int S _) z3
  have hr : okS S (.tup (k.fs.map Fm.d)) := okS_tup (fun e he => by obtain ⟨f, _, rfl⟩ := List.mem_map.mp he; exact okD_tup S _) (by rw [List.length_map]; exact hz)
  refine ⟨⟨okS_tup (fun e he => ?_) z3, fun rows pre pro e => ?_⟩, ?_⟩
  · simp at he
    rcases he with rfl | rfl | rfl
    · exact okD_tup S _
    · exact okD_bl S _
    · exact okD_int S _
  · cases e
    exact ⟨hr, fun rs e r hm => by cases e; obtain ⟨f, _, rfl⟩ := List.mem_map.mp hm; exact hf f⟩
  · have e1 : ∀ f ∈ k.fs, formR S (Fm.d f) = Fm.d f := fun f hm => by
      obtain ⟨r1, r2, r3, r4, r5, r6, r7⟩ := hk.rng f hm
      have : formOk [D.int f.1, .int f.2.1, .int f.2.2] = true := by
        obtain ⟨a, b, c⟩ := f
        simp only at r1 r2 r3 r4 r5 r6
        simp only [formOk, List.length_cons, List.length_nil, List.all_cons, List.all_nil, inR, r1, r2, r3, r4, r5, r6, decide_true, Bool.and_self, Bool.and_true, beq_self_eq_true, Bool.true_and, Bool.not_eq_true']
        cases h : (a == 0 && (b == 0 && c == 0)) with
        | false => rfl
        | true =>
          simp only [Bool.and_eq_true, beq_iff_eq] at h
          exact absurd (by rw [h.1, h.2.1, h.2.2]) r7
      unfold formR
      show (match seqOf S (Fm.d f) with | some ds => if formOk ds = true then D.tup ds else .non | none => .non) = _
      rw [show seqOf S (Fm.d f) = some [D.int f.1, .int f.2.1, .int f.2.2] from rfl]
      show (if formOk [D.int f.1, .int f.2.1, .int f.2.2] = true then D.tup [D.int f.1, .int f.2.1, .int f.2.2] else .non) = _
      rw [if_pos this]
      rfl
    have e2 : (k.fs.map Fm.d).map (formR S) = k.fs.map Fm.d := by
      rw [List.map_map]
      exact List.map_congr_left fun f hm => e1 f hm
    have e3 : (k.fs.map Fm.d).any isNonD = false := by
      rw [List.any_eq_false]
      intro d hd
      obtain ⟨f, _, rfl⟩ := List.mem_map.mp hd
      exact fun h => by cases h
    unfold kernR
    show (match seqOf S (D.tup (k.fs.map Fm.d)) with | some rs => if rs.length ≤ 3 then (if (rs.map (formR S)).any isNonD = true then D.non else if (isBlD (.bl k.p) && inR 0 2 (.int k.q)) = true then .tup [.tup (rs.map (formR S)), .bl k.p, .int k.q] else .non) else .non | none => .non) = _
    show (if (k.fs.map Fm.d).length ≤ 3 then (if ((k.fs.map Fm.d).map (formR S)).any isNonD = true then D.non else if (isBlD (.bl k.p) && inR 0 2 (.int k.q)) = true then .tup [.tup ((k.fs.map Fm.d).map (formR S)), .bl k.p, .int k.q] else .non) else .non) = _
    rw [e2, if_pos (by rw [List.length_map]; exact hk.len), e3, if_neg (by decide), if_pos (by simp [isBlD, inR, hk.q])]
    rfl
theorem ahead {n : Nat} {k : Kn} (hk : k.ok) {x y : V4} {S : Store} (hn : x.m ≠ y.m) : FF (n + 6) 12 [k.d, x.d, y.d] S = .ok (.bl (HT.lexLt (rk k x) (rk k y))) S := by
  rw [FF, Mi.F_def (f := f12) rfl]
  obtain ⟨h1, h2⟩ := kern_self hk S
  have e3 : ∀ v : V4, subD v.d (.int 3) S = some (.int v.m) := fun v => by simp [subD, V4.d, seqOf, L2.atI, L2.ixN]
  have e4 : ∀ v : V4, isD v.d .non = some false := fun v => rfl
  have e5 : (x.m == y.m) = false := by simpa using hn
  simp [runFn, f12, exec, ev, evs, evT, evAny, need (n := n) h1 h2 rfl rfl, view (n := n + 2), setAll, cmpD, e3, e4, truthD, peq_int, e5, isAhead (n := n + 2) hk]
end K01
set_option autoImplicit true
set_option Elab.async false
set_option linter.all false
set_option maxRecDepth 100000
set_option maxHeartbeats 4000000
set_option autoImplicit false
/-! K01N: what the law's own functions compute. -/
namespace K01
open Mi
theorem take {n r : Nat} {m : Int} {S : Store} (h : IsRow S r) (hm : 0 < m) : ∃ t S', FF (n + 1) 19 [.ref r, .int m] S = .ok (.int t) S' ∧ 0 ≤ t ∧ t < m ∧ IsRow S' r ∧ Kp (some r) S S' ∧ S'.length = S.length := by
  obtain ⟨is, e, hl⟩ := h
  rw [FF, Mi.F_def (f := f19) rfl]
  have hs : listAt S r = some (is.map D.int) := by simp [listAt, e]
  have hL : isLst S (.ref r) = true := by simp [isLst, e]
  rcases List.eq_nil_or_concat is with rfl | ⟨js, j, rfl⟩
  · refine ⟨0, S, ?_, by omega, hm, ⟨[], e, by simp⟩, .refl _ _, rfl⟩
    simp [runFn, f19, exec, ev, evs, evT, fnD, hs, cmpD, peq_int, truthD]
  · rw [List.concat_eq_append] at e hs hl
    refine ⟨j % m, S.set r (.lst (js.map D.int)), ?_, Int.emod_nonneg _ (by omega), Int.emod_lt_of_pos _ hm, ⟨js, by rw [List.getElem?_set_self (List.getElem?_eq_some_iff.mp e).1], by simp at hl; omega⟩, .set, by simp⟩
    have h3 : ((js.length : Int) + 1 == 0) = false := by simpa using (by omega : ¬ ((js.length : Int) + 1 = 0))
    have h4 : mthD .pop (.ref r) [] S = .ok (.int j) (S.set r (.lst (js.map D.int))) := by
      simp [mthD, e]
    simp [runFn, f19, exec, ev, evs, evT, fnD, hs, cmpD, peq_int, truthD, h3, hL, h4, binD, hm]
theorem cell {n s : Nat} {ns : List Int} {S : Store} (h : listAt S s = some (ns.map D.int)) : ∃ c, FF (n + 1) 17 [.ref s, .int 0] S = .ok (.int c) S := by
  rw [FF, Mi.F_def (f := f17) rfl]
  cases ns with
  | nil => exact ⟨0, by simp [runFn, f17, exec, ev, evs, evT, fnD, h, cmpD, plt, truthD]⟩
  | cons c r =>
    have : decide ((0 : Int) < (r.length : Int) + 1) = true := decide_eq_true (by omega)
    exact ⟨c, by simp [runFn, f17, exec, ev, evs, evT, fnD, h, cmpD, plt, truthD, subD, seqOf, L2.atI, L2.ixN, this]⟩
/-- appending an int to a row -/
theorem app_row {S : Store} {r : Nat} {is : List Int} (e : S[r]? = some (.lst (is.map D.int))) (hl : is.length < 1000) (i : Int) : isLst S (.ref r) = true ∧ mthD .append (.ref r) [.int i] S = .ok .non (S.set r (.lst ((is ++ [i]).map D.int))) ∧ (S.set r (.lst ((is ++ [i]).map D.int)))[r]? = some (.lst ((is ++ [i]).map D.int)) := by
  have hz : is.length < PySem.sizeLine := Nat.lt_of_lt_of_le hl (by decide)
  refine ⟨by simp [isLst, e], by simp [mthD, e, hz], ?_⟩
  rw [List.getElem?_set_self (List.getElem?_eq_some_iff.mp e).1]
theorem h60 {n : Nat} (ρ : Mi.Env) (S : Store) (h : ρ[1]? = some (some (.int 60))) : evIt (FF n) (.itRng1 (.var 1)) ρ S = .ok (none, (List.range 60).map fun (i : Nat) => D.int (i : Int)) S := by
  have e : rng1 (.int 60) = some ((List.range 60).map fun (i : Nat) => D.int (i : Int)) := rng1_ok (n := 60) (by omega)
  show ((ev (FF n) (.var 1) ρ S).bind fun x S => ofO ((rng1 x).map fun xs => (none, xs)) S) = _
  have e2 : ev (FF n) (.var 1) ρ S = .ok (.int 60) S := by simp [ev, h]
  rw [e2]
  show ofO ((rng1 (.int 60)).map fun xs => (none, xs)) S = _
  rw [e]
  rfl
theorem rowA {n : Nat} {c : Int} {S : Store} (hc : (1000000000000000000 : Int) ≤ c) : ∃ ρ' S', exec (FF n) f18_l3 [some (.int c), some (.int 60), some (.ref S.length), none, none] (S ++ [.lst []]) = .ok (.nx, ρ') S' ∧ ρ'[2]? = some (some (.ref S.length)) ∧ Kp none S S' ∧ ∃ is : List Int, S'[S.length]? = some (.lst (is.map D.int)) ∧ is.length = 60 := by
  obtain ⟨ρ', S', e1, c', x3, x4, is, rfl, e2, e3, e4⟩ := exec_for (Φ := FF n) (t := .nm 3) (it := .itRng1 (.var 1)) (b := f18_l2) (ρ := [some (.int c), some (.int 60), some (.ref S.length), none, none]) (S := S ++ [.lst []])
      (fun i ρ S' => ∃ (c' : Int) (x3 x4 : Option D) (is : List Int), ρ = [some (.int c'), some (.int 60), some (.ref S.length), x3, x4] ∧ S'[S.length]? = some (.lst (is.map D.int)) ∧ is.length = i ∧ Kp none S S') (h60 _ _ rfl)
      (fun i x ρ S' hx ⟨c', x3, x4, is, hρ, e2, e3, e4⟩ => by
        subst hρ
        have hi : i < 60 := by have := (List.getElem?_eq_some_iff.mp hx).1; simpa using this
        obtain ⟨a1, a2, a3⟩ := app_row e2 (by omega) (c' % 1000)
        refine ⟨trivial, _, _, _, rfl, ?_, c' / 1000, some x, x4, is ++ [c' % 1000], rfl, a3, by simp [e3], e4.own (Nat.le_refl _)⟩
        simp [f18_l2, exec, ev, evs, a1, a2, binD])
      (fun _ _ _ => trivial) ⟨c, none, none, [], rfl, by simp, rfl, .app⟩
  exact ⟨_, S', e1, rfl, e4, is, e2, by simpa using e3⟩
theorem rowB {n : Nat} {c : Int} {s0 : Int} {S : Store} : ∃ ρ' S', exec (FF n) f18_l1 [some (.int c), some (.int 60), some (.ref S.length), none, some (.int s0)] (S ++ [.lst []]) = .ok (.nx, ρ') S' ∧ ρ'[2]? = some (some (.ref S.length)) ∧ Kp none S S' ∧ ∃ is : List Int, S'[S.length]? = some (.lst (is.map D.int)) ∧ is.length = 60 := by
  obtain ⟨ρ', S', e1, c', x3, is, rfl, e2, e3, e4⟩ := exec_for (Φ := FF n) (t := .nm 3) (it := .itRng1 (.var 1)) (b := f18_l0) (ρ := [some (.int c), some (.int 60), some (.ref S.length), none, some (.int s0)]) (S := S ++ [.lst []])
      (fun i ρ S' => ∃ (c' : Int) (x3 : Option D) (is : List Int), ρ = [some (.int c), some (.int 60), some (.ref S.length), x3, some (.int c')] ∧ S'[S.length]? = some (.lst (is.map D.int)) ∧ is.length = i ∧ Kp none S S') (h60 _ _ rfl)
      (fun i x ρ S' hx ⟨c', x3, is, hρ, e2, e3, e4⟩ => by
        subst hρ
        have hi : i < 60 := by have := (List.getElem?_eq_some_iff.mp hx).1; simpa using this
        have ex : x = .int (i : Int) := by
          rw [List.getElem?_map, List.getElem?_range hi] at hx
          exact (Option.some.inj hx).symm
        subst ex
        obtain ⟨j, hj⟩ : ∃ j : Int, j = (i : Int) := ⟨_, rfl⟩
        rw [← hj]
        obtain ⟨k1, hk1⟩ : ∃ k1 : Int, k1 = (c' * 48271 + j * 69621 + 11) % 2147483647 := ⟨_, rfl⟩
        obtain ⟨k2, hk2⟩ : ∃ k2 : Int, k2 = (k1 * 16807 + 7) % 2147483629 := ⟨_, rfl⟩
        obtain ⟨a1, a2, a3⟩ := app_row e2 (by omega) (k2 / 65536 % 1000)
        have b1 : big64 48271 = true := decide_eq_true (by omega)
        have b2 : big64 69621 = true := decide_eq_true (by omega)
        have b3 : big64 16807 = true := decide_eq_true (by omega)
        have s1 : ev (FF n) (.bin .mod (.fn .int (.cons (.bin .add (.bin .add (.bin .mul (.var 4) (.cst (.int 48271))) (.bin .mul (.var 3) (.cst (.int 69621)))) (.cst (.int 11))) .nil)) (.cst (.int 2147483647))) [some (.int c), some (.int 60), some (.ref S.length), some (.int j), some (.int c')] S' = .ok (.int k1) S' := by
          have q0 : binD .mod (.int (c' * 48271 + j * 69621 + 11)) (.int 2147483647) S' = .ok (.int ((c' * 48271 + j * 69621 + 11) % 2147483647)) S' := bin_mod S' (by omega)
          rw [← hk1] at q0
          simp [ev, evs, fnD, bin_mul S' b1, bin_mul S' b2, bin_add, q0]
        have s2 : ev (FF n) (.bin .mod (.fn .int (.cons (.bin .add (.bin .mul (.var 4) (.cst (.int 16807))) (.cst (.int 7))) .nil)) (.cst (.int 2147483629))) [some (.int c), some (.int 60), some (.ref S.length), some (.int j), some (.int k1)] S' = .ok (.int k2) S' := by
          have q0 : binD .mod (.int (k1 * 16807 + 7)) (.int 2147483629) S' = .ok (.int ((k1 * 16807 + 7) % 2147483629)) S' := bin_mod S' (by omega)
          rw [← hk2] at q0
          simp [ev, evs, fnD, bin_mul S' b3, bin_add, q0]
        have s3 : ev (FF n) (.mth .append (.var 2) (.cons (.bin .mod (.fn .int (.cons (.bin .fdiv (.var 4) (.cst (.int 65536))) .nil)) (.cst (.int 1000))) .nil)) [some (.int c), some (.int 60), some (.ref S.length), some (.int j), some (.int k2)] S' = .ok .non (S'.set S.length (.lst ((is ++ [k2 / 65536 % 1000]).map D.int))) := by
          have q0 : binD .fdiv (.int k2) (.int 65536) S' = .ok (.int (k2 / 65536)) S' := bin_fdiv S' (by omega)
          have q1 : binD .mod (.int (k2 / 65536)) (.int 1000) S' = .ok (.int (k2 / 65536 % 1000)) S' := bin_mod S' (by omega)
          simp only [ev, evs, List.getElem?_cons_succ, List.getElem?_cons_zero, Res.bind_ok, q0, q1, fnD, a1, a2, if_true]
        refine ⟨trivial, _, _, _, rfl, ?_, k2, some (.int j), is ++ [_], rfl, a3, by simp [e3], e4.own (Nat.le_refl _)⟩
        show exec (FF n) f18_l0 [some (.int c), some (.int 60), some (.ref S.length), some (.int j), some (.int c')] S' = _
        simp only [f18_l0, exec, s1, Res.bind_ok, List.set_cons_succ, List.set_cons_zero, s2, s3])
      (fun _ _ _ => trivial) ⟨s0, none, [], rfl, by simp, rfl, .app⟩
  exact ⟨_, S', e1, rfl, e4, is, e2, by simpa using e3⟩
theorem row {n : Nat} {c : Int} {S : Store} : ∃ S', FF (n + 1) 18 [.int c, .int 60] S = .ok (.ref S.length) S' ∧ Kp none S S' ∧ ∃ is : List Int, S'[S.length]? = some (.lst (is.map D.int)) ∧ is.length = 60 := by
  rw [FF, Mi.F_def (f := f18) rfl]
  by_cases hc : (1000000000000000000 : Int) ≤ c
  · obtain ⟨ρ', S', e1, e2, h⟩ := rowA (n := n) (S := S) hc
    refine ⟨S', ?_, h⟩
    simp [runFn, f18, exec, ev, evs, evT, binD, cmpD, truthD, e1, e2, hc]
  · obtain ⟨ρ', S', e1, e2, h⟩ := rowB (n := n) (c := c) (s0 := c % 2147483629) (S := S)
    refine ⟨S', ?_, h⟩
    simp [runFn, f18, exec, ev, evs, evT, binD, cmpD, truthD, fnD, e1, e2, hc]
theorem draws {n s : Nat} {ns : List Int} {S : Store} (h : S[s]? = some (.frz (ns.map D.int))) (hl : ns.length ≤ 63) : ∃ r S', FF (n + 2) 23 [.ref s, .int 60] S = .ok (.ref r) S' ∧ S.length ≤ r ∧ IsRow S' r ∧ Kp none S S' := by
  rw [FF, Mi.F_def (f := f23) rfl]
  have hs : listAt S s = some (ns.map D.int) := by simp [listAt, h]
  obtain ⟨c, hc⟩ := cell (n := n) hs
  obtain ⟨S1, h1, k1, is, h2, h3⟩ := row (n := n) (c := c) (S := S)
  have hsl : s < S.length := (List.getElem?_eq_some_iff.mp h).1
  have h' : S1[s]? = some (.frz (ns.map D.int)) := k1.get h (by simp)
  have hs1 : listAt S1 s = some (ns.map D.int) := by simp [listAt, h']
  have hit : evIt (FF (n + 1)) (.itSeq (.slc (.var 0) (.cons (.cst (.int 1)) .nil) (.cons (.cst (.int 63)) .nil))) [some (.ref s), some (.int 60), some (.ref S.length), none] S1 = .ok (some (S1.length, (cut ns (some 1) (some 63)).map D.int), (cut ns (some 1) (some 63)).map D.int) (S1 ++ [.lst ((cut ns (some 1) (some 63)).map D.int)]) := by
    have e : cut (ns.map D.int) (some 1) (some 63) = (cut ns (some 1) (some 63)).map D.int := by
      unfold cut
      rw [List.length_map, List.map_take, List.map_drop]
    have e2 : listAt (S1 ++ [.lst ((cut ns (some 1) (some 63)).map D.int)]) S1.length = some ((cut ns (some 1) (some 63)).map D.int) := by simp [listAt]
    simp [evIt, ev, evP, slcD, hs1, e, itemsOf, e2]
  have hcl : (cut ns (some 1) (some 63)).length ≤ 63 := by
    unfold cut
    rw [List.length_take, List.length_drop]
    omega
  have e23 : exec (FF (n + 1)) f23_l1 [some (.ref s), some (.int 60), some (.ref S.length), none] S1 = exec (FF (n + 1)) (.forr (.nm 3) (.itSeq (.slc (.var 0) (.cons (.cst (.int 1)) .nil) (.cons (.cst (.int 63)) .nil))) f23_l0) [some (.ref s), some (.int 60), some (.ref S.length), none] S1 := rfl
  have hS1 : S.length < S1.length := (List.getElem?_eq_some_iff.mp h2).1
  obtain ⟨ρ', S', e1, ⟨x3, js, rfl, g1, g2, g3, g4⟩⟩ := exec_for (Φ := FF (n + 1)) (t := .nm 3) (b := f23_l0)
    (fun i ρ S' => ∃ (x3 : Option D) (js : List Int), ρ = [some (.ref s), some (.int 60), some (.ref S.length), x3] ∧ S'[S.length]? = some (.lst (js.map D.int)) ∧ js.length = 60 + i ∧ Kp (some S.length) S1 S' ∧ S'[S1.length]? = some (.lst ((cut ns (some 1) (some 63)).map D.int))) hit
    (fun i x ρ S' hx ⟨x3, js, hρ, g1, g2, g3, g4⟩ => by
      subst hρ
      have hi : i < 63 := by have := (List.getElem?_eq_some_iff.mp hx).1; simp at this; omega
      rw [List.getElem?_map] at hx
      obtain ⟨v, hv, rfl⟩ := Option.map_eq_some_iff.mp hx
      obtain ⟨a1, a2, a3⟩ := app_row g1 (by omega) (v % 1000)
      refine ⟨by show listAt S' S1.length = _; simp [listAt, g4], _, _, _, rfl, ?_, some (.int v), js ++ [v % 1000], rfl, a3, by simp [g2]; omega, g3.trans .set, ?_⟩
      · have q1 : binD .mod (.int v) (.int 1000) S' = .ok (.int (v % 1000)) S' := bin_mod S' (by omega)
        simp [f23_l0, exec, ev, evs, fnD, q1, a1, a2]
      · rw [List.getElem?_set_ne (by omega)]; exact g4)
    (fun ρ S' ⟨x3, js, _, _, _, _, g4⟩ => by show listAt S' S1.length = _; simp [listAt, g4])
    ⟨none, is, rfl, by rw [List.getElem?_append_left hS1]; exact h2, by simp [h3], .app, by simp⟩
  refine ⟨S.length, S', ?_, Nat.le_refl _, ⟨js, g1, by simp at g2; omega⟩, ⟨Nat.le_trans k1.len g3.len, fun m hm hr => ?_⟩⟩
  · have e1 : exec (FF (n + 1)) f23_l1 [some (.ref s), some (.int 60), some (.ref S.length), none] S1 = .ok (.nx, [some (.ref s), some (.int 60), some (.ref S.length), x3]) S' := e1
    simp [runFn, f23, exec, ev, evs, hc, h1, e1]
  · exact (g3.at_ m (by have := k1.len; omega) (by simp; omega)).trans (k1.at_ m hm hr)
theorem kernel {n r : Nat} {S : Store} (h : IsRow S r) : ∃ k S', FF (n + 2) 20 [.ref r] S = .ok (Kn.d k) S' ∧ k.ok ∧ IsRow S' r ∧ Kp (some r) S S' := by
  rw [FF, Mi.F_def (f := f20) rfl]
  have hr : r < S.length := by obtain ⟨is, e, _⟩ := h; exact (List.getElem?_eq_some_iff.mp e).1
  have h0 : IsRow (S ++ [.lst []]) r := h.keep (Kp.app (r := none)) (by simp)
  obtain ⟨t, S1, e1, t1, t2, w1, k1, l1⟩ := take (n := n) (m := 4) h0 (by omega)
  obtain ⟨tn, rfl⟩ : ∃ tn : Nat, t = (tn : Int) := ⟨t.toNat, by omega⟩
  have hit : evIt (FF (n + 1)) (.itRng1 (.call 19 (.cons (.var 0) (.cons (.cst (.int 4)) .nil)))) [some (.ref r), some (.ref S.length), none, none] (S ++ [.lst []]) = .ok (none, (List.range tn).map fun (i : Nat) => D.int (i : Int)) S1 := by
    exact it_rng1 (by simp [ev, evs, e1]) (by omega)
  have f0 : S1[S.length]? = some (.lst (([] : List Fm).map Fm.d)) := by
    rw [k1.at_ S.length (by simp) (by simp; omega)]; simp
  obtain ⟨ρ', S2, e2, ⟨x2, x3, fs, rfl, g1, g2, g3, g4, g5⟩⟩ := exec_for (Φ := FF (n + 1)) (t := .nm 2) (b := f20_l0)
    (fun i ρ S' => ∃ (x2 x3 : Option D) (fs : List Fm), ρ = [some (.ref r), some (.ref S.length), x2, x3] ∧ S'[S.length]? = some (.lst (fs.map Fm.d)) ∧ fs.length ≤ i ∧ (∀ f ∈ fs, -2 ≤ f.1 ∧ f.1 ≤ 2 ∧ -2 ≤ f.2.1 ∧ f.2.1 ≤ 2 ∧ -2 ≤ f.2.2 ∧ f.2.2 ≤ 2 ∧ f ≠ (0, 0, 0)) ∧ IsRow S' r ∧ Kp (some r) S S') hit
    (fun i x ρ S' hx ⟨x2, x3, fs, hρ, g1, g2, g3, g4, g5⟩ => by
      subst hρ
      obtain ⟨a, Sa, ea, a1, a2, wa, ka, la⟩ := take (n := n) (m := 5) g4 (by omega)
      obtain ⟨b, Sb, eb, b1, b2, wb, kb, lb⟩ := take (n := n) (m := 5) wa (by omega)
      obtain ⟨c, Sc, ec, c1, c2, wc, kc, lc⟩ := take (n := n) (m := 5) wb (by omega)
      have kk : Kp (some r) S' Sc := (ka.trans kb).trans kc
      have gc : Sc[S.length]? = some (.lst (fs.map Fm.d)) := kk.get g1 (by simp; omega)
      have hfl : fs.length < PySem.sizeLine := by
        have h1 : i < tn := by have := (List.getElem?_eq_some_iff.mp hx).1; simpa using this
        have := z4; omega
      have etup : ev (FF (n + 1)) (.tup (.cons (.bin .sub (.call 19 (.cons (.var 0) (.cons (.cst (.int 5)) .nil))) (.cst (.int 2))) (.cons (.bin .sub (.call 19 (.cons (.var 0) (.cons (.cst (.int 5)) .nil))) (.cst (.int 2))) (.cons (.bin .sub (.call 19 (.cons (.var 0) (.cons (.cst (.int 5)) .nil))) (.cst (.int 2))) .nil)))) [some (.ref r), some (.ref S.length), some x, x3] S' = .ok (Fm.d (a - 2, b - 2, c - 2)) Sc := by
        simp [ev, evs, ea, eb, ec, bin_sub, z3, Fm.d]
      have epeq : peq Sc (Fm.d (a - 2, b - 2, c - 2)) (.tup [.int 0, .int 0, .int 0]) = some (decide ((a - 2, b - 2, c - 2) = ((0, 0, 0) : Fm))) := by
        rw [peq_flat (k := 1) (j := 1) (by rfl) (by rfl) (by decide) (by decide)]
        simp only [Fm.d, py, pys, PySem.PyData.eqv, PySem.PyData.eqvAll, Bool.and_true, Prod.mk.injEq]
        congr 1
        rw [Bool.eq_iff_iff]
        simp
      by_cases hz : ((a - 2, b - 2, c - 2) : Fm) = (0, 0, 0)
      · refine ⟨trivial, [some (.ref r), some (.ref S.length), some x, x3], [some (.ref r), some (.ref S.length), some x, some (Fm.d (a - 2, b - 2, c - 2))], Sc, rfl, ?_, some x, _, fs, rfl, gc, by omega, g3, wc, g5.trans kk⟩
        have : decide ((a - 2, b - 2, c - 2) = ((0, 0, 0) : Fm)) = true := decide_eq_true hz
        rw [this] at epeq
        simp only [f20_l0, exec, List.set_cons_succ, List.set_cons_zero, etup, Res.bind_ok]
        simp [exec, ev, evs, evT, cmpD, z3, epeq, truthD]
      · refine ⟨trivial, [some (.ref r), some (.ref S.length), some x, x3], [some (.ref r), some (.ref S.length), some x, some (Fm.d (a - 2, b - 2, c - 2))], Sc.set S.length (.lst ((fs ++ [(a - 2, b - 2, c - 2)]).map Fm.d)), rfl, ?_, some x, _, fs ++ [(a - 2, b - 2, c - 2)], rfl, ?_, by simp; omega, ?_, ?_, ?_⟩
        · have : decide ((a - 2, b - 2, c - 2) = ((0, 0, 0) : Fm)) = false := decide_eq_false hz
          rw [this] at epeq
          have hL : isLst Sc (.ref S.length) = true := by simp [isLst, gc]
          have hM : mthD .append (.ref S.length) [Fm.d (a - 2, b - 2, c - 2)] Sc = .ok .non (Sc.set S.length (.lst ((fs ++ [(a - 2, b - 2, c - 2)]).map Fm.d))) := by simp [mthD, gc, hfl]
          simp only [f20_l0, exec, List.set_cons_succ, List.set_cons_zero, etup, Res.bind_ok]
          simp [exec, ev, evs, evT, cmpD, z3, epeq, truthD, hL, hM, -List.map_append]
        · rw [List.getElem?_set_self (List.getElem?_eq_some_iff.mp gc).1]
        · intro f hf
          rcases List.mem_append.mp hf with hf | hf
          · exact g3 f hf
          · rw [List.mem_singleton.mp hf]
            exact ⟨by show -2 ≤ a - 2; omega, by show a - 2 ≤ 2; omega, by show -2 ≤ b - 2; omega, by show b - 2 ≤ 2; omega, by show -2 ≤ c - 2; omega, by show c - 2 ≤ 2; omega, hz⟩
        · obtain ⟨is, e, hl⟩ := wc
          exact ⟨is, by rw [List.getElem?_set_ne (by omega)]; exact e, hl⟩
        · exact (g5.trans kk).own (Nat.le_refl _))
    (fun _ _ _ => trivial) ⟨none, none, [], rfl, f0, Nat.le_refl _, (fun f hf => by cases hf), w1, (Kp.app (r := some r)).trans k1⟩
  have g2 : fs.length ≤ tn := by simpa using g2
  obtain ⟨p, S3, e3, p1, p2, w3, k3, l3⟩ := take (n := n) (m := 2) g4 (by omega)
  obtain ⟨q, S4, e4, q1, q2, w4, k4, l4⟩ := take (n := n) (m := 3) w3 (by omega)
  refine ⟨⟨fs, p == 1, q⟩, S4, ?_, ⟨by show fs.length ≤ 3; omega, by show 0 ≤ q ∧ q ≤ 2; omega, g3⟩, w4, (g5.trans k3).trans k4⟩
  have e2 : exec (FF (n + 1)) f20_l1 [some (.ref r), some (.ref S.length), none, none] (S ++ [.lst []]) = .ok (.nx, [some (.ref r), some (.ref S.length), x2, x3]) S2 := e2
  have g1' : listAt S2 S.length = some (fs.map Fm.d) := by simp [listAt, g1]
  simp [runFn, f20, exec, ev, evs, e2, fnD, seqOf, g1', e3, e4, cmpD, peq_int, z3, Kn.d]
theorem part {n r v p : Nat} {w : Int} {S : Store} {m kk : D} {x6 : Option D} (hw : 0 < w) (h : IsRow S r) (hp : S[p]? = some (.lst [])) (hrp : r ≠ p) :
    ∃ (a b c : Int) (x6' : Option D) (S' : Store), exec (FF (n + 1)) f24_l1 [some (.ref r), some m, some (.ref v), some (.int w), some kk, some (.ref p), x6] S = .ok (.nx, [some (.ref r), some m, some (.ref v), some (.int w), some kk, some (.ref p), x6']) S' ∧
      S'[p]? = some (.lst [.int a, .int b, .int c]) ∧ IsRow S' r ∧ S.length ≤ S'.length ∧ ∀ q, q < S.length → q ≠ r → q ≠ p → S'[q]? = S[q]? := by
  have hit : evIt (FF (n + 1)) (.itRng1 (.cst (.int 3))) [some (.ref r), some m, some (.ref v), some (.int w), some kk, some (.ref p), x6] S = .ok (none, (List.range 3).map fun (i : Nat) => D.int (i : Int)) S := it_rng1 (n := 3) (by simp [ev]) (by omega)
  obtain ⟨ρ', S', e1, ⟨x, is, rfl, g1, g2, g3, g4, g5⟩⟩ := exec_for (Φ := FF (n + 1)) (t := .nm 6) (b := f24_l0)
    (fun i ρ S' => ∃ (x : Option D) (is : List Int), ρ = [some (.ref r), some m, some (.ref v), some (.int w), some kk, some (.ref p), x] ∧ S'[p]? = some (.lst (is.map D.int)) ∧ is.length = i ∧ IsRow S' r ∧ S.length ≤ S'.length ∧ ∀ q, q < S.length → q ≠ r → q ≠ p → S'[q]? = S[q]?) hit
    (fun i x ρ S' hx ⟨x6, is, hρ, g1, g2, g3, g4, g5⟩ => by
      subst hρ
      have hi : i < 3 := by have := (List.getElem?_eq_some_iff.mp hx).1; simpa using this
      have hL : isLst S' (.ref p) = true := by simp [isLst, g1]
      obtain ⟨a, Sa, ea, a1, a2, wa, ka, la⟩ := take (n := n) (m := w) g3 hw
      obtain ⟨b, Sb, eb, b1, b2, wb, kb, lb⟩ := take (n := n) (m := w) wa hw
      have kk2 := ka.trans kb
      have gb : Sb[p]? = some (.lst (is.map D.int)) := kk2.get g1 (by simp; omega)
      obtain ⟨c1, c2, c3⟩ := app_row gb (by omega) (a - b)
      refine ⟨trivial, _, _, _, rfl, ?_, some x, is ++ [a - b], rfl, c3, by simp [g2], ?_, by simp; omega, fun q h1 h2 h3 => ?_⟩
      · simp [f24_l0, exec, ev, evs, hL, ea, eb, bin_sub, c2, -List.map_append]
      · obtain ⟨js, e, hl⟩ := wb
        exact ⟨js, by rw [List.getElem?_set_ne (by omega)]; exact e, hl⟩
      · rw [List.getElem?_set_ne (by omega), kk2.at_ q (by omega) (by simp; omega)]
        exact g5 q h1 h2 h3)
    (fun _ _ _ => trivial) ⟨x6, [], rfl, hp, rfl, h, Nat.le_refl _, fun _ _ _ _ => rfl⟩
  have g2 : is.length = 3 := by simpa using g2
  match is, g2, g1 with
  | [a, b, c], _, g1 => exact ⟨a, b, c, x, S', e1, g1, g3, g4, g5⟩
end K01
set_option autoImplicit true
set_option Elab.async false
set_option linter.all false
set_option maxRecDepth 100000
set_option maxHeartbeats 4000000
set_option autoImplicit false
/-! K01O: the views of the law. -/
namespace K01
open Mi
theorem exec_set {Φ : Orc} {i : Nat} {e : E} {ρ : Env} {S S' : Store} {d : D} (h : ev Φ e ρ S = .ok d S') : exec Φ (.set i e) ρ S = .ok (.nx, ρ.set i (some d)) S' := by
  rw [exec, h, Res.bind_ok]
theorem exec_ret {Φ : Orc} {e : E} {ρ : Env} {S S' : Store} {d : D} (h : ev Φ e ρ S = .ok d S') : exec Φ (.ret e) ρ S = .ok (.ret d, ρ) S' := by
  rw [exec, h, Res.bind_ok]
theorem exec_cons {Φ : Orc} {a b : Sx} {ρ ρ' : Env} {S S' : Store} (h : exec Φ a ρ S = .ok (.nx, ρ') S') : exec Φ (.cons a b) ρ S = exec Φ b ρ' S' := by
  rw [exec, h]
theorem exec_cons' {Φ : Orc} {a b : Sx} {ρ ρ' : Env} {S S' : Store} {d : D} (h : exec Φ a ρ S = .ok (.ret d, ρ') S') : exec Φ (.cons a b) ρ S = .ok (.ret d, ρ') S' := by
  rw [exec, h]
theorem run_of {Φ : Orc} {f : Fn} {ds : List D} {S S' : Store} {d : D} {ρ' : Env} (hl : ds.length = f.np) (he : exec Φ f.body (ds.map some ++ List.replicate (f.nn - f.np) none) S = .ok (.ret d, ρ') S') : runFn Φ f ds S = .ok d S' := by
  rw [runFn, if_pos hl, he]
def nums : List Int := [4, 0, 9, 2, 7, 1]
theorem views {n r m : Nat} {S : Store} (h : IsRow S r) (hm : m ≤ 6) : ∃ (v : Nat) (vs : List V4) (S' : Store), FF (n + 2) 24 [.ref r, .int m] S = .ok (.ref v) S' ∧ S.length ≤ v ∧ S'[v]? = some (.lst (vs.map V4.d)) ∧ vs.map (·.m) = nums.take m ∧ IsRow S' r ∧ Kp (some r) S S' := by
  rw [FF, Mi.F_def (f := f24) rfl]
  have hr : r < S.length := by obtain ⟨is, e, _⟩ := h; exact (List.getElem?_eq_some_iff.mp e).1
  obtain ⟨S1, hS1⟩ : ∃ S1, S1 = (S ++ [.lst []]) ++ [Ob.lst [.int 1000, .int 1000, .int 3]] := ⟨_, rfl⟩
  have h1 : IsRow S1 r := by rw [hS1]; exact (h.keep (Kp.app (r := none)) (by simp)).keep (Kp.app (r := none)) (by simp)
  obtain ⟨t, S2, e2, t1, t2, w2, k2, l2⟩ := take (n := n) (m := 3) h1 (by omega)
  have f1 : S1[S.length]? = some (.lst []) := by rw [hS1]; simp
  have f2 : S1[S.length + 1]? = some (.lst [.int 1000, .int 1000, .int 3]) := by
    rw [hS1, List.getElem?_append_right (by simp)]
    simp
  have g1 : S2[S.length]? = some (.lst []) := k2.get f1 (by simp; omega)
  have g2 : S2[S.length + 1]? = some (.lst [.int 1000, .int 1000, .int 3]) := k2.get f2 (by simp; omega)
  obtain ⟨w, hw, hsub⟩ : ∃ w : Int, 0 < w ∧ subD (.ref (S.length + 1)) (.int t) S2 = some (.int w) := by
    have hs : listAt S2 (S.length + 1) = some [.int 1000, .int 1000, .int 3] := by simp [listAt, g2]
    have : t = 0 ∨ t = 1 ∨ t = 2 := by omega
    rcases this with rfl | rfl | rfl
    · exact ⟨1000, by omega, by simp [subD, seqOf, hs, L2.atI, L2.ixN]⟩
    · exact ⟨1000, by omega, by simp [subD, seqOf, hs, L2.atI, L2.ixN]⟩
    · exact ⟨3, by omega, by simp [subD, seqOf, hs, L2.atI, L2.ixN]⟩
  have hit : evIt (FF (n + 1)) (.itRng1 (.var 1)) [some (.ref r), some (.int m), some (.ref S.length), some (.int w), none, none, none] S2 = .ok (none, (List.range m).map fun (i : Nat) => D.int (i : Int)) S2 := it_rng1 (by simp [ev]) (by omega)
  have kS : Kp (some r) S S2 := by
    have : Kp (some r) S S1 := by rw [hS1]; exact Kp.app.trans Kp.app
    exact this.trans k2
  obtain ⟨ρ', S', e1, ⟨x4, x5, x6, vs, rfl, q1, q2, q3, q4⟩⟩ := exec_for (Φ := FF (n + 1)) (t := .nm 4) (b := f24_l2)
    (fun i ρ S' => ∃ (x4 x5 x6 : Option D) (vs : List V4), ρ = [some (.ref r), some (.int m), some (.ref S.length), some (.int w), x4, x5, x6] ∧ S'[S.length]? = some (.lst (vs.map V4.d)) ∧ vs.map (·.m) = nums.take i ∧ IsRow S' r ∧ Kp (some r) S S') hit
    (fun i x ρ S' hx ⟨x4, x5, x6, vs, hρ, q1, q2, q3, q4⟩ => by
      subst hρ
      have hi : i < m := by have := (List.getElem?_eq_some_iff.mp hx).1; simpa using this
      have ex : x = .int (i : Int) := by
        rw [List.getElem?_map, List.getElem?_range hi] at hx
        exact (Option.some.inj hx).symm
      subst ex
      obtain ⟨j, hj, hj0, hj6⟩ : ∃ j : Int, (i : Int) = j ∧ 0 ≤ j ∧ j < 6 := ⟨(i : Int), rfl, by omega, by omega⟩
      have hjn : j.toNat = i := by omega
      rw [hj]
      have hv : S.length < S'.length := (List.getElem?_eq_some_iff.mp q1).1
      have hrow0 : IsRow (S' ++ [.lst []]) r := q3.keep (Kp.app (r := none)) (by simp)
      obtain ⟨a, b, c, x6', S3, e3, p1, p2, p3, p4⟩ := part (n := n) (r := r) (v := S.length) (p := S'.length) (w := w) (S := S' ++ [.lst []]) (m := .int m) (kk := .int j) (x6 := x6) hw hrow0 (by simp) (by omega)
      have pv : S3[S.length]? = some (.lst (vs.map V4.d)) := by
        rw [p4 S.length (by simp; omega) (by omega) (by omega), List.getElem?_append_left hv]; exact q1
      obtain ⟨mm, hmm⟩ : ∃ mm, nums[i]? = some mm := by
        have : i < nums.length := by show i < 6; omega
        exact ⟨_, List.getElem?_eq_getElem this⟩
      have hsn : subD (.ref S3.length) (.int j) (S3 ++ [.lst (nums.map D.int)]) = some (.int mm) := by
        have h1 : listAt (S3 ++ [.lst (nums.map D.int)]) S3.length = some (nums.map D.int) := by simp [listAt]
        have h2 : j < ((nums.map D.int).length : Int) := hj6
        simp only [subD, seqOf, h1, L2.atI, L2.ixN, hj0, if_true, h2, Option.bind_some, hjn, List.getElem?_map, hmm, Option.map_some]
      have hp0 : ∀ (k : Nat) (y : D), ([D.int a, .int b, .int c])[k]? = some y → ∀ X, subD (.ref S'.length) (.int (k : Int)) (S3 ++ X) = some y := fun k y hk X => by
        have h1 : listAt (S3 ++ X) S'.length = some [.int a, .int b, .int c] := by
          have := (List.getElem?_eq_some_iff.mp p1).1
          simp [listAt, List.getElem?_append_left this, p1]
        have hk3 : k < 3 := (List.getElem?_eq_some_iff.mp hk).1
        have h2 : (k : Int) < (([D.int a, .int b, .int c] : List D).length : Int) := by show (k : Int) < 3; omega
        have h3 : (0 : Int) ≤ (k : Int) := by omega
        simp only [subD, seqOf, h1, L2.atI, L2.ixN, h3, if_true, h2, Option.bind_some, Int.toNat_natCast, hk]
      have hz : vs.length < PySem.sizeLine := by
        have : vs.length = (nums.take i).length := by rw [← q2, List.length_map]
        rw [List.length_take] at this
        have h6 : nums.length = 6 := rfl
        have : vs.length ≤ 6 := by omega
        exact Nat.lt_of_le_of_lt this (by decide)
      have hp00 : subD (.ref S'.length) (.int 0) S3 = some (.int a) := by have := hp0 0 (.int a) rfl []; rw [List.append_nil] at this; exact this
      have hp10 : subD (.ref S'.length) (.int 1) S3 = some (.int b) := by have := hp0 1 (.int b) rfl []; rw [List.append_nil] at this; exact this
      have hp20 : subD (.ref S'.length) (.int 2) S3 = some (.int c) := by have := hp0 2 (.int c) rfl []; rw [List.append_nil] at this; exact this
      have hL : isLst S3 (.ref S.length) = true := by simp [isLst, pv]
      have pv2 : (S3 ++ [Ob.lst (nums.map D.int)])[S.length]? = some (.lst (vs.map V4.d)) := by rw [List.getElem?_append_left (List.getElem?_eq_some_iff.mp pv).1]; exact pv
      have hM : mthD .append (.ref S.length) [V4.d ⟨a, b, c, mm⟩] (S3 ++ [.lst (nums.map D.int)]) = .ok .non ((S3 ++ [Ob.lst (nums.map D.int)]).set S.length (.lst ((vs ++ [(⟨a, b, c, mm⟩ : V4)]).map V4.d))) := by simp [mthD, pv2, hz]
      have kS3 : Kp (some r) S S3 := ⟨by have := q4.len; simp at p3; omega, fun q hq hr' => by
        rw [p4 q (by have := q4.len; simp; omega) (by simpa using hr') (by have := q4.len; omega), List.getElem?_append_left (by have := q4.len; omega)]
        exact q4.at_ q hq hr'⟩
      refine ⟨trivial, [some (.ref r), some (.int m), some (.ref S.length), some (.int w), some (.int j), x5, x6], [some (.ref r), some (.int m), some (.ref S.length), some (.int w), some (.int j), some (.ref S'.length), x6'], (S3 ++ [Ob.lst (nums.map D.int)]).set S.length (.lst ((vs ++ [(⟨a, b, c, mm⟩ : V4)]).map V4.d)), rfl, ?_, some (.int j), some (.ref S'.length), x6', vs ++ [(⟨a, b, c, mm⟩ : V4)], rfl, ?_, ?_, ?_, ?_⟩
      rotate_left
      · rw [List.getElem?_set_self (List.getElem?_eq_some_iff.mp pv2).1]
      · rw [List.map_append, q2, List.take_succ, hmm]; rfl
      · obtain ⟨js, e, hl⟩ := p2
        exact ⟨js, by rw [List.getElem?_set_ne (by omega), List.getElem?_append_left (List.getElem?_eq_some_iff.mp e).1]; exact e, hl⟩
      · exact (kS3.trans .app).own (Nat.le_refl _)
      · show exec (FF (n + 1)) f24_l2 [some (.ref r), some (.int m), some (.ref S.length), some (.int w), some (.int j), x5, x6] S' = _
        have etup : ev (FF (n + 1)) (.tup (.cons (.sub (.var 5) (.cst (.int 0))) (.cons (.sub (.var 5) (.cst (.int 1))) (.cons (.sub (.var 5) (.cst (.int 2))) (.cons (.sub (.lst (.cons (.cst (.int 4)) (.cons (.cst (.int 0)) (.cons (.cst (.int 9)) (.cons (.cst (.int 2)) (.cons (.cst (.int 7)) (.cons (.cst (.int 1)) .nil))))))) (.var 4)) .nil))))) [some (.ref r), some (.int m), some (.ref S.length), some (.int w), some (.int j), some (.ref S'.length), x6'] S3 = .ok (V4.d ⟨a, b, c, mm⟩) (S3 ++ [.lst (nums.map D.int)]) := by
          have hz6 : 6 ≤ PySem.sizeLine := by decide
          have hz4 : 4 ≤ PySem.sizeLine := by decide
          have hsn' : subD (.ref S3.length) (.int j) (S3 ++ [.lst [.int 4, .int 0, .int 9, .int 2, .int 7, .int 1]]) = some (.int mm) := hsn
          simp only [ev, evs, Res.bind_ok, List.getElem?_cons_succ, List.getElem?_cons_zero, hp00, hp10, hp20, ofO_some, List.length_cons, List.length_nil, hz6, hz4, if_true, hsn', Nat.zero_add, Nat.reduceAdd]
          rfl
        have hz0 : 0 ≤ PySem.sizeLine := Nat.zero_le _
        have s1 : ev (FF (n + 1)) (.lst .nil) [some (.ref r), some (.int m), some (.ref S.length), some (.int w), some (.int j), x5, x6] S' = .ok (.ref S'.length) (S' ++ [.lst []]) := by
          simp only [ev, evs, Res.bind_ok, List.length_nil, hz0, if_true]
        have s3 : ev (FF (n + 1)) (.mth .append (.var 2) (.cons (.tup (.cons (.sub (.var 5) (.cst (.int 0))) (.cons (.sub (.var 5) (.cst (.int 1))) (.cons (.sub (.var 5) (.cst (.int 2))) (.cons (.sub (.lst (.cons (.cst (.int 4)) (.cons (.cst (.int 0)) (.cons (.cst (.int 9)) (.cons (.cst (.int 2)) (.cons (.cst (.int 7)) (.cons (.cst (.int 1)) .nil))))))) (.var 4)) .nil))))) .nil)) [some (.ref r), some (.int m), some (.ref S.length), some (.int w), some (.int j), some (.ref S'.length), x6'] S3 = .ok .non ((S3 ++ [Ob.lst (nums.map D.int)]).set S.length (.lst ((vs ++ [(⟨a, b, c, mm⟩ : V4)]).map V4.d))) := by
          rw [ev]
          have e0 : ev (FF (n + 1)) (.var 2) [some (.ref r), some (.int m), some (.ref S.length), some (.int w), some (.int j), some (.ref S'.length), x6'] S3 = .ok (.ref S.length) S3 := by simp [ev]
          rw [e0, Res.bind_ok, if_pos hL, evs, etup, Res.bind_ok, evs, Res.bind_ok, Res.bind_ok]
          exact hM
        simp only [f24_l2, exec, s1, Res.bind_ok, List.set_cons_succ, List.set_cons_zero, e3, s3])
    (fun _ _ _ => trivial) ⟨none, none, none, [], rfl, g1, by simp, w2, kS⟩
  have q2 : vs.map (·.m) = nums.take m := by simpa using q2
  refine ⟨S.length, vs, S', ?_, Nat.le_refl _, q1, q2, q3, q4⟩
  have e1 : exec (FF (n + 1)) f24_l3 [some (.ref r), some (.int m), some (.ref S.length), some (.int w), none, none, none] S2 = .ok (.nx, [some (.ref r), some (.int m), some (.ref S.length), some (.int w), x4, x5, x6]) S' := e1
  have a1 : ev (FF (n + 1)) (.lst .nil) [some (.ref r), some (.int m), none, none, none, none, none] S = .ok (.ref S.length) (S ++ [.lst []]) := by
    simp only [ev, evs, Res.bind_ok, List.length_nil, Nat.zero_le, if_true]
  have a2 : ev (FF (n + 1)) (.lst (.cons (.cst (.int 1000)) (.cons (.cst (.int 1000)) (.cons (.cst (.int 3)) .nil)))) [some (.ref r), some (.int m), some (.ref S.length), none, none, none, none] (S ++ [.lst []]) = .ok (.ref (S.length + 1)) S1 := by
    simp only [ev, evs, Res.bind_ok, List.length_nil, List.length_cons, Nat.zero_add, Nat.reduceAdd, z3, if_true, hS1, List.length_append]
  have a3 : ev (FF (n + 1)) (.call 19 (.cons (.var 0) (.cons (.cst (.int 3)) .nil))) [some (.ref r), some (.int m), some (.ref S.length), none, none, none, none] S1 = .ok (.int t) S2 := by
    simp only [ev, evs, Res.bind_ok, List.getElem?_cons_zero, e2]
  have a4 : ev (FF (n + 1)) (.sub (.lst (.cons (.cst (.int 1000)) (.cons (.cst (.int 1000)) (.cons (.cst (.int 3)) .nil)))) (.call 19 (.cons (.var 0) (.cons (.cst (.int 3)) .nil)))) [some (.ref r), some (.int m), some (.ref S.length), none, none, none, none] (S ++ [.lst []]) = .ok (.int w) S2 := by
    rw [ev, a2, Res.bind_ok, a3, Res.bind_ok, hsub]
    rfl
  have a5 : exec (FF (n + 1)) f24.body [some (.ref r), some (.int m), none, none, none, none, none] S = .ok (.ret (.ref S.length), [some (.ref r), some (.int m), some (.ref S.length), some (.int w), x4, x5, x6]) S' := by
    show exec (FF (n + 1)) (.cons _ (.cons _ (.cons f24_l3 _))) _ _ = _
    rw [exec_cons (exec_set a1)]
    simp only [List.set_cons_succ, List.set_cons_zero]
    rw [exec_cons (exec_set a4)]
    simp only [List.set_cons_succ, List.set_cons_zero]
    rw [exec_cons e1, exec_cons' (exec_ret (d := .ref S.length) (S' := S') (by rw [ev]; rfl))]
  exact run_of (f := f24) rfl a5
end K01
set_option autoImplicit true
set_option Elab.async false
set_option linter.all false
set_option maxRecDepth 100000
set_option maxHeartbeats 4000000
set_option autoImplicit false
/-! K01P: the law's own order, rank and numbers. -/
namespace K01
open Mi
abbrev Small (f : Fm) : Prop := -2 ≤ f.1 ∧ f.1 ≤ 2 ∧ -2 ≤ f.2.1 ∧ f.2.1 ≤ 2 ∧ -2 ≤ f.2.2 ∧ f.2.2 ≤ 2
theorem worthL {n : Nat} {f : Fm} {v : V4} {S : Store} (hf : Small f) : FF (n + 1) 21 [f.d, v.d] S = .ok (.int (wor f v)) S := by
  rw [FF, Mi.F_def (f := f21) rfl]
  obtain ⟨r1, r2, r3, r4, r5, r6⟩ := hf
  have b1 : big64 f.1 = true := decide_eq_true (by omega)
  have b2 : big64 f.2.1 = true := decide_eq_true (by omega)
  have b3 : big64 f.2.2 = true := decide_eq_true (by omega)
  simp [runFn, f21, exec, ev, evs, subD, Fm.d, V4.d, seqOf, L2.atI, L2.ixN, binD, b1, b2, b3, wor]
theorem loop22 {n : Nat} {x y : V4} {S : Store} {d0 : D} {tx ty : List Int} : ∀ (gs : List Fm), (∀ f ∈ gs, Small f) → ∀ x3 : Option D, ∃ x3' : Option D,
    (∃ b, forEv none (fun z ρ S => match asg (.nm 3) z ρ with | some ρ' => exec (FF (n + 1)) f22_l0 ρ' S | none => .bad) (gs.map Fm.d) [some d0, some x.d, some y.d, x3] S = .ok (.ret (.bl b), [some d0, some x.d, some y.d, x3']) S ∧ HT.lexLt (gs.map (fun f => wor f x) ++ tx) (gs.map (fun f => wor f y) ++ ty) = b)
    ∨ (forEv none (fun z ρ S => match asg (.nm 3) z ρ with | some ρ' => exec (FF (n + 1)) f22_l0 ρ' S | none => .bad) (gs.map Fm.d) [some d0, some x.d, some y.d, x3] S = .ok (.nx, [some d0, some x.d, some y.d, x3']) S ∧ HT.lexLt (gs.map (fun f => wor f x) ++ tx) (gs.map (fun f => wor f y) ++ ty) = HT.lexLt tx ty)
  | [], _, x3 => ⟨x3, .inr ⟨by simp [forEv, still], rfl⟩⟩
  | f :: gs, h, x3 => by
    have hf := h f (by simp)
    have w1 := worthL (n := n) (v := x) (S := S) hf
    have w2 := worthL (n := n) (v := y) (S := S) hf
    by_cases hw : wor f x = wor f y
    · obtain ⟨x3', ih⟩ := loop22 (n := n) (x := x) (y := y) (S := S) (d0 := d0) (tx := tx) (ty := ty) gs (fun g hg => h g (by simp [hg])) (some f.d)
      have eb : exec (FF (n + 1)) f22_l0 [some d0, some x.d, some y.d, some f.d] S = .ok (.nx, [some d0, some x.d, some y.d, some f.d]) S := by
        simp [f22_l0, exec, ev, evs, evT, w1, w2, cmpD, peq_int, hw, truthD]
      refine ⟨x3', ?_⟩
      have el : HT.lexLt ((f :: gs).map (fun f => wor f x) ++ tx) ((f :: gs).map (fun f => wor f y) ++ ty) = HT.lexLt (gs.map (fun f => wor f x) ++ tx) (gs.map (fun f => wor f y) ++ ty) := by
        show HT.lexLt (wor f x :: _) (wor f y :: _) = _
        rw [HT.lexLt_cons, if_pos hw]
        rfl
      have ef : forEv none (fun z ρ S => match asg (.nm 3) z ρ with | some ρ' => exec (FF (n + 1)) f22_l0 ρ' S | none => .bad) ((f :: gs).map Fm.d) [some d0, some x.d, some y.d, x3] S = forEv none (fun z ρ S => match asg (.nm 3) z ρ with | some ρ' => exec (FF (n + 1)) f22_l0 ρ' S | none => .bad) (gs.map Fm.d) [some d0, some x.d, some y.d, some f.d] S := by
        rw [List.map_cons, forEv]
        simp [still, asg, eb]
      rw [el, ef]
      exact ih
    · have eb : exec (FF (n + 1)) f22_l0 [some d0, some x.d, some y.d, some f.d] S = .ok (.ret (.bl (decide (wor f x < wor f y))), [some d0, some x.d, some y.d, some f.d]) S := by
        have : (wor f x == wor f y) = false := by simpa using hw
        simp [f22_l0, exec, ev, evs, evT, w1, w2, cmpD, peq_int, this, truthD, plt]
      refine ⟨some f.d, .inl ⟨decide (wor f x < wor f y), ?_, ?_⟩⟩
      · rw [List.map_cons, forEv]
        simp [still, asg, eb]
      · show HT.lexLt (wor f x :: _) (wor f y :: _) = _
        rw [HT.lexLt_cons, if_neg hw]
theorem aheadL {n : Nat} {k : Kn} (hk : k.ok) {x y : V4} {S : Store} (hn : x.m ≠ y.m) : FF (n + 2) 22 [.tup (k.fs.map Fm.d), x.d, y.d] S = .ok (.bl (HT.lexLt (rk k x) (rk k y))) S := by
  rw [FF, Mi.F_def (f := f22) rfl]
  have hs : ∀ f ∈ k.fs, Small f := fun f hf => let ⟨r1, r2, r3, r4, r5, r6, _⟩ := hk.rng f hf; ⟨r1, r2, r3, r4, r5, r6⟩
  obtain ⟨x3, h⟩ := loop22 (n := n) (x := x) (y := y) (S := S) (d0 := .tup (k.fs.map Fm.d)) (tx := [x.m]) (ty := [y.m]) k.fs hs none
  have hi : evIt (FF (n + 1)) (.itSeq (.var 0)) [some (.tup (k.fs.map Fm.d)), some x.d, some y.d, none] S = .ok (none, k.fs.map Fm.d) S := by simp [evIt, ev, itemsOf]
  have e3 : ∀ v : V4, subD v.d (.int 3) S = some (.int v.m) := fun v => by simp [subD, V4.d, seqOf, L2.atI, L2.ixN]
  rcases h with ⟨b, h, e⟩ | ⟨h, e⟩
  · have a1 : exec (FF (n + 1)) f22_l1 [some (.tup (k.fs.map Fm.d)), some x.d, some y.d, none] S = .ok (.ret (.bl b), [some (.tup (k.fs.map Fm.d)), some x.d, some y.d, x3]) S := by
      rw [f22_l1, exec, hi, Res.bind_ok]
      exact h
    rw [show HT.lexLt (rk k x) (rk k y) = b from e]
    exact run_of (f := f22) (ρ' := [some (.tup (k.fs.map Fm.d)), some x.d, some y.d, x3]) rfl (exec_cons' a1)
  · have a1 : exec (FF (n + 1)) f22_l1 [some (.tup (k.fs.map Fm.d)), some x.d, some y.d, none] S = .ok (.nx, [some (.tup (k.fs.map Fm.d)), some x.d, some y.d, x3]) S := by
      rw [f22_l1, exec, hi, Res.bind_ok]
      exact h
    have el : HT.lexLt (rk k x) (rk k y) = decide (x.m < y.m) := by
      refine e.trans ?_
      rw [HT.lexLt_cons, if_neg hn]
    have a2 : ev (FF (n + 1)) (.cmp .lt (.sub (.var 1) (.cst (.int 3))) (.sub (.var 2) (.cst (.int 3)))) [some (.tup (k.fs.map Fm.d)), some x.d, some y.d, x3] S = .ok (.bl (decide (x.m < y.m))) S := by
      simp [ev, e3, cmpD, plt]
    rw [el]
    exact run_of (f := f22) (ρ' := [some (.tup (k.fs.map Fm.d)), some x.d, some y.d, x3]) rfl ((exec_cons a1).trans (exec_cons' (exec_ret a2)))
def toV : D → V4
  | .tup [.int a, .int b, .int c, .int m] => ⟨a, b, c, m⟩
  | _ => ⟨0, 0, 0, 0⟩
theorem toV_d (v : V4) : toV v.d = v := rfl
/-- u stands ahead of w -/
def bef (k : Kn) (u w : V4) : Bool := (u.m != w.m) && HT.lexLt (rk k u) (rk k w)
/-- so many stand ahead of w -/
def cnt (k : Kn) (vs : List V4) (w : V4) : Nat := (vs.filter fun u => bef k u w).length
theorem sub3 (v : V4) (S : Store) : subD v.d (.int 3) S = some (.int v.m) := by simp [subD, V4.d, seqOf, L2.atI, L2.ixN]
theorem rankL {n v : Nat} {k : Kn} (hk : k.ok) {w : V4} {vs : List V4} {S : Store} (hv : S[v]? = some (.lst (vs.map V4.d))) (hz : vs.length ≤ 1000) :
    ∃ X, FF (n + 3) 25 [.tup (k.fs.map Fm.d), .ref v, w.d] S = .ok (.int (cnt k vs w : Nat)) (S ++ X) := by
  rw [FF, Mi.F_def (f := f25) rfl]
  have hl : listAt S v = some (vs.map V4.d) := by simp [listAt, hv]
  obtain ⟨g, hg, hs⟩ := itSeq_ok (Φ := FF (n + 2)) (ρ := [some (.tup (k.fs.map Fm.d)), some (.ref v), some w.d, none]) (i := 1) (d := .ref v) rfl hl
  have z : vs.length ≤ PySem.sizeLine := Nat.le_trans hz (by decide)
  have e0 : ev (FF (n + 2)) f25_e0 [some (.tup (k.fs.map Fm.d)), some (.ref v), some w.d, none] S = .ok (.ref S.length) (S ++ [.lst (((vs.map V4.d).filter fun d => bef k (toV d) w).map id)]) := by
    refine ev_lcf hg hs (by rw [List.length_map]; exact z) fun x hx => ?_
    obtain ⟨u, _, rfl⟩ := List.mem_map.mp hx
    rw [toV_d]
    by_cases hu : u.m = w.m
    · simp [gstep, asg, evAll, evT, ev, evs, wipeE, cmpD, sub3, peq_int, hu, truthD, bef]
    · have hb : (u.m == w.m) = false := by simpa using hu
      have hb' : (u.m != w.m) = true := by simpa using hu
      simp [gstep, asg, evAll, evT, ev, evs, wipeE, cmpD, sub3, peq_int, hb, truthD, bef, hb', aheadL (n := n) hk hu]
      cases HT.lexLt (rk k u) (rk k w) <;> rfl
  refine ⟨[.lst (((vs.map V4.d).filter fun d => bef k (toV d) w).map id)], ?_⟩
  have e1 : fnD .len [.ref S.length] (S ++ [.lst (((vs.map V4.d).filter fun d => bef k (toV d) w).map id)]) = .ok (.int (cnt k vs w : Nat)) (S ++ [.lst (((vs.map V4.d).filter fun d => bef k (toV d) w).map id)]) := by
    have h1 : listAt (S ++ [.lst (((vs.map V4.d).filter fun d => bef k (toV d) w).map id)]) S.length = some (((vs.map V4.d).filter fun d => bef k (toV d) w).map id) := by simp [listAt]
    have h2 : (((vs.map V4.d).filter fun d => bef k (toV d) w).map id).length = cnt k vs w := by
      rw [List.map_id, List.filter_map, List.length_map]
      rfl
    simp only [fnD, h1, h2]
  have e2 : ev (FF (n + 2)) (.fn .len (.cons f25_e0 .nil)) [some (.tup (k.fs.map Fm.d)), some (.ref v), some w.d, none] S = .ok (.int (cnt k vs w : Nat)) (S ++ [.lst (((vs.map V4.d).filter fun d => bef k (toV d) w).map id)]) := by
    rw [ev, evs, e0, Res.bind_ok, evs, Res.bind_ok, Res.bind_ok]
    exact e1
  exact run_of (f := f25) (ρ' := [some (.tup (k.fs.map Fm.d)), some (.ref v), some w.d, none]) rfl (exec_cons' (exec_ret e2))
end K01
set_option autoImplicit true
set_option Elab.async false
set_option linter.all false
set_option maxRecDepth 100000
set_option maxHeartbeats 4000000
set_option autoImplicit false
/-! K01R: the law's numbers. -/
namespace K01
open Mi
/-- the numbers of those with j ahead -/
def atRank (k : Kn) (vs us : List V4) (j : Int) : List Int := (us.filter fun w => (cnt k vs w : Int) == j).map (·.m)
theorem atRank_len (k : Kn) (vs us : List V4) (j : Int) : (atRank k vs us j).length ≤ us.length := by
  rw [atRank, List.length_map]; exact List.length_filter_le _ _
theorem num1 {n v p : Nat} {k : Kn} (hk : k.ok) {vs : List V4} {S : Store} {j : Int} {js : List Int} {x4 : Option D} (hv : S[v]? = some (.lst (vs.map V4.d))) (hp : S[p]? = some (.lst (js.map D.int))) (hvp : v ≠ p) (hz : vs.length ≤ 1000) (hj : js.length ≤ 1000000) :
    ∃ x4' S', exec (FF (n + 3)) f26_l1 [some (.tup (k.fs.map Fm.d)), some (.ref v), some (.ref p), some (.int j), x4] S = .ok (.nx, [some (.tup (k.fs.map Fm.d)), some (.ref v), some (.ref p), some (.int j), x4']) S' ∧ S'[p]? = some (.lst ((js ++ atRank k vs vs j).map D.int)) ∧ Kp (some p) S S' := by
  have hl : listAt S v = some (vs.map V4.d) := by simp [listAt, hv]
  have hit : evIt (FF (n + 3)) (.itSeq (.var 1)) [some (.tup (k.fs.map Fm.d)), some (.ref v), some (.ref p), some (.int j), x4] S = .ok (some (v, vs.map V4.d), vs.map V4.d) S := by simp [evIt, ev, itemsOf, hl]
  obtain ⟨ρ', S', e1, ⟨x4', rfl, g1, g2⟩⟩ := exec_for (Φ := FF (n + 3)) (t := .nm 4) (b := f26_l0)
    (fun i ρ S' => ∃ x4, ρ = [some (.tup (k.fs.map Fm.d)), some (.ref v), some (.ref p), some (.int j), x4] ∧ S'[p]? = some (.lst ((js ++ atRank k vs (vs.take i) j).map D.int)) ∧ Kp (some p) S S') hit
    (fun i x ρ S' hx ⟨x4, hρ, g1, g2⟩ => by
      subst hρ
      rw [List.getElem?_map] at hx
      obtain ⟨w, hw, rfl⟩ := Option.map_eq_some_iff.mp hx
      have hi : i < vs.length := (List.getElem?_eq_some_iff.mp hw).1
      have hv' : S'[v]? = some (.lst (vs.map V4.d)) := g2.get hv (by simpa using hvp)
      have hst : still (some (v, vs.map V4.d)) S' := by show listAt S' v = _; simp [listAt, hv']
      obtain ⟨X, er⟩ := rankL (n := n) hk (w := w) hv' hz
      have hps : p < S'.length := (List.getElem?_eq_some_iff.mp g1).1
      have g1' : (S' ++ X)[p]? = some (.lst ((js ++ atRank k vs (vs.take i) j).map D.int)) := by rw [List.getElem?_append_left hps]; exact g1
      have ht : atRank k vs (vs.take (i + 1)) j = atRank k vs (vs.take i) j ++ (if ((cnt k vs w : Int) == j) = true then [w.m] else []) := by
        rw [atRank, List.take_succ, hw, List.filter_append, List.map_append]
        congr 1
        cases h : ((cnt k vs w : Int) == j) <;> simp [List.filter, h]
      obtain ⟨c, hc⟩ : ∃ c : Int, c = (cnt k vs w : Int) := ⟨_, rfl⟩
      rw [← hc] at er ht
      cases hb : (c == j) with
      | true =>
        have hlen : (js ++ atRank k vs (vs.take i) j).length < PySem.sizeLine := by
          have h1 := atRank_len k vs (vs.take i) j
          rw [List.length_take] at h1
          rw [List.length_append]
          have h2 : (1001000 : Nat) < PySem.sizeLine := by decide
          omega
        have hL : isLst (S' ++ X) (.ref p) = true := by simp [isLst, g1']
        have hM : mthD .append (.ref p) [.int w.m] (S' ++ X) = .ok .non ((S' ++ X).set p (.lst ((js ++ atRank k vs (vs.take (i + 1)) j).map D.int))) := by
          rw [ht, hb, if_pos rfl]
          rw [List.length_append] at hlen
          simp [mthD, g1', hlen]
        refine ⟨hst, _, [some (.tup (k.fs.map Fm.d)), some (.ref v), some (.ref p), some (.int j), some w.d], (S' ++ X).set p (.lst ((js ++ atRank k vs (vs.take (i + 1)) j).map D.int)), rfl, ?_, some w.d, rfl, ?_, ?_⟩
        · simp [f26_l0, exec, ev, evs, evT, er, cmpD, peq_int, hb, truthD, hL, sub3, hM, -List.map_append]
        · rw [List.getElem?_set_self (by simp; omega)]
        · exact (g2.trans Kp.app).trans Kp.set
      | false =>
        refine ⟨hst, _, [some (.tup (k.fs.map Fm.d)), some (.ref v), some (.ref p), some (.int j), some w.d], S' ++ X, rfl, ?_, some w.d, rfl, ?_, g2.trans Kp.app⟩
        · simp [f26_l0, exec, ev, evs, evT, er, cmpD, peq_int, hb, truthD]
        · rw [ht, hb, g1']; simp)
    (fun ρ S' ⟨x4, _, _, g2⟩ => by
      have hv' : S'[v]? = some (.lst (vs.map V4.d)) := g2.get hv (by simpa using hvp)
      show listAt S' v = _; simp [listAt, hv'])
    ⟨x4, rfl, by simpa [atRank] using hp, Kp.refl _ _⟩
  refine ⟨x4', S', e1, ?_, g2⟩
  rw [g1, List.length_map, List.take_length]
theorem kp_none {p : Nat} {S Sa Sb : Store} (h0 : Kp none S Sa) (h : Kp (some p) Sa Sb) (hp : S.length ≤ p) : Kp none S Sb :=
  ⟨Nat.le_trans h0.len h.len, fun q hq _ => (h.at_ q (Nat.lt_of_lt_of_le hq h0.len) (by simp; omega)).trans (h0.at_ q hq (by simp))⟩
/-- the numbers as the law tells them -/
def told (k : Kn) (vs : List V4) (i : Nat) : List Int := (List.range i).flatMap fun (j : Nat) => atRank k vs vs (j : Int)
theorem told_succ (k : Kn) (vs : List V4) (i : Nat) : told k vs (i + 1) = told k vs i ++ atRank k vs vs (i : Int) := by
  rw [told, List.range_succ, List.flatMap_append, List.flatMap_singleton]; rfl
theorem told_len (k : Kn) (vs : List V4) : ∀ i, (told k vs i).length ≤ i * vs.length
  | 0 => by simp [told]
  | i + 1 => by
    rw [told_succ, List.length_append, Nat.succ_mul]
    have := told_len k vs i
    have := atRank_len k vs vs (i : Int)
    omega
theorem numbers {n v : Nat} {k : Kn} (hk : k.ok) {vs : List V4} {S : Store} (hv : S[v]? = some (.lst (vs.map V4.d))) (hz : vs.length ≤ 1000) :
    ∃ S', FF (n + 4) 26 [.tup (k.fs.map Fm.d), .ref v] S = .ok (.tup ((told k vs vs.length).map D.int)) S' ∧ Kp none S S' := by
  rw [FF, Mi.F_def (f := f26) rfl]
  have hvS : v < S.length := (List.getElem?_eq_some_iff.mp hv).1
  have hv1 : (S ++ [Ob.lst []])[v]? = some (.lst (vs.map V4.d)) := by rw [List.getElem?_append_left hvS]; exact hv
  have hl1 : listAt (S ++ [Ob.lst []]) v = some (vs.map V4.d) := by simp [listAt, hv1]
  have a1 : ev (FF (n + 3)) (.lst .nil) [some (.tup (k.fs.map Fm.d)), some (.ref v), none, none, none] S = .ok (.ref S.length) (S ++ [.lst []]) := by
    simp only [ev, evs, Res.bind_ok, List.length_nil, Nat.zero_le, if_true]
  have hit : evIt (FF (n + 3)) (.itRng1 (.fn .len (.cons (.var 1) .nil))) [some (.tup (k.fs.map Fm.d)), some (.ref v), some (.ref S.length), none, none] (S ++ [.lst []]) = .ok (none, (List.range vs.length).map fun (i : Nat) => D.int (i : Int)) (S ++ [.lst []]) := by
    refine it_rng1 ?_ (by omega)
    have : fnD .len [.ref v] (S ++ [.lst []]) = .ok (.int ((vs.map V4.d).length : Nat)) (S ++ [.lst []]) := by simp only [fnD, hl1]
    rw [List.length_map] at this
    simp [ev, evs, this]
  obtain ⟨ρ', S', e1, ⟨x3, x4, rfl, g1, g2⟩⟩ := exec_for (Φ := FF (n + 3)) (t := .nm 3) (b := f26_l2)
    (fun i ρ S' => ∃ x3 x4, ρ = [some (.tup (k.fs.map Fm.d)), some (.ref v), some (.ref S.length), x3, x4] ∧ S'[S.length]? = some (.lst ((told k vs i).map D.int)) ∧ Kp none S S') hit
    (fun i x ρ S' hx ⟨x3, x4, hρ, g1, g2⟩ => by
      subst hρ
      have hi : i < vs.length := by have := (List.getElem?_eq_some_iff.mp hx).1; simpa using this
      have ex : x = .int (i : Int) := by
        rw [List.getElem?_map, List.getElem?_range hi] at hx
        exact (Option.some.inj hx).symm
      subst ex
      have hlen : (told k vs i).length ≤ 1000000 := by
        have h1 := told_len k vs i
        have h2 : i * vs.length ≤ 1000 * 1000 := Nat.mul_le_mul (by omega) hz
        omega
      obtain ⟨x4', Sb, eb, p1, p2⟩ := num1 (n := n) (v := v) (p := S.length) hk (vs := vs) (S := S') (j := (i : Int)) (js := told k vs i) (x4 := x4) (g2.get hv (by simp)) g1 (by omega) hz hlen
      refine ⟨trivial, [some (.tup (k.fs.map Fm.d)), some (.ref v), some (.ref S.length), some (.int (i : Int)), x4], _, Sb, rfl, exec_cons eb, some (.int (i : Int)), x4', rfl, ?_, kp_none g2 p2 (Nat.le_refl _)⟩
      rw [p1, told_succ])
    (fun _ _ _ => trivial) ⟨none, none, rfl, by simp [told], Kp.app⟩
  have g1 : S'[S.length]? = some (.lst ((told k vs vs.length).map D.int)) := by
    rw [g1, List.length_map, List.length_range]
  refine ⟨S', ?_, g2⟩
  have hl : listAt S' S.length = some ((told k vs vs.length).map D.int) := by simp [listAt, g1]
  have a2 : ev (FF (n + 3)) (.fn .tuple (.cons (.var 2) .nil)) [some (.tup (k.fs.map Fm.d)), some (.ref v), some (.ref S.length), x3, x4] S' = .ok (.tup ((told k vs vs.length).map D.int)) S' := by
    have : fnD .tuple [.ref S.length] S' = .ok (.tup ((told k vs vs.length).map D.int)) S' := by simp only [fnD, seqOf, hl]
    simp only [ev, evs, Res.bind_ok, List.getElem?_cons_succ, List.getElem?_cons_zero, this]
  have e1 : exec (FF (n + 3)) f26_l3 [some (.tup (k.fs.map Fm.d)), some (.ref v), some (.ref S.length), none, none] (S ++ [.lst []]) = .ok (.nx, [some (.tup (k.fs.map Fm.d)), some (.ref v), some (.ref S.length), x3, x4]) S' := e1
  exact run_of (f := f26) (ρ' := [some (.tup (k.fs.map Fm.d)), some (.ref v), some (.ref S.length), x3, x4]) rfl ((exec_cons (exec_set a1)).trans ((exec_cons e1).trans (exec_cons' (exec_ret a2))))
end K01
set_option autoImplicit true
set_option Elab.async false
set_option linter.all false
set_option maxRecDepth 100000
set_option maxHeartbeats 4000000
set_option autoImplicit false
/-! K01S: the bad kernels. -/
namespace K01
open Mi
def bForms : List D := [.tup [.int 3, .int 0, .int 0], .tup [.int 0, .int (-3), .int 0], .tup [.int 0, .int 0, .int 3], .tup [.int 1, .int 0], .tup [.int 1, .int 0, .int 0, .int 0], .tup [.bl true, .int 0, .int 0], .str "abc", .non]
def fullD : D := .tup [.tup [.int 1, .int 0, .int 0], .tup [.int 0, .int 1, .int 0], .tup [.int 0, .int 0, .int 1], .tup [.int 1, .int 1, .int 1]]
def frs (k : Kn) : D := .tup (k.fs.map Fm.d)
def mkB (k : Kn) (f : D) : D := .tup [.tup (cut (k.fs.map Fm.d) none (some 2) ++ [f]), .bl k.p, .int k.q]
def bad1 (k : Kn) : List D := [.tup [fullD, .bl k.p, .int k.q], .tup [.tup [.tup [.int 0, .int 0, .int 0]], .bl k.p, .int k.q], .tup [frs k, .int 1, .int k.q], .non, .tup []]
def bad2 (k : Kn) : List D := [.tup [frs k, .bl k.p, .int 3], .tup [frs k, .bl k.p, .int (-1)], .tup [frs k, .bl k.p], .tup [frs k, .bl k.p, .bl true]]
def bads (k : Kn) : List D := (bad1 k ++ bad2 k) ++ bForms.map (mkB k)
theorem kd0 (k : Kn) (S : Store) : subD k.d (.int 0) S = some (frs k) := by simp [subD, Kn.d, frs, seqOf, L2.atI, L2.ixN]
theorem kd1 (k : Kn) (S : Store) : subD k.d (.int 1) S = some (.bl k.p) := by simp [subD, Kn.d, seqOf, L2.atI, L2.ixN]
theorem kd2 (k : Kn) (S : Store) : subD k.d (.int 2) S = some (.int k.q) := by simp [subD, Kn.d, seqOf, L2.atI, L2.ixN]
theorem cut2_len (xs : List D) : (cut xs none (some 2)).length ≤ 2 := by
  rw [cut, List.length_take]
  have : HT.sIx xs.length xs.length (some 2) ≤ 2 := by simp [HT.sIx]; omega
  omega
theorem badK {n : Nat} {k : Kn} {S : Store} : ∃ r S', FF (n + 1) 27 [k.d] S = .ok (.ref r) S' ∧ S'[r]? = some (.lst (bads k)) ∧ Kp none S S' := by
  rw [FF, Mi.F_def (f := f27) rfl]
  have z9 : 9 ≤ PySem.sizeLine := by decide
  have z8 : 8 ≤ PySem.sizeLine := by decide
  have z5 : 5 ≤ PySem.sizeLine := by decide
  obtain ⟨kd, hkd⟩ : ∃ d, d = k.d := ⟨_, rfl⟩
  have k0 : ∀ S, subD kd (.int 0) S = some (frs k) := fun S => by rw [hkd]; exact kd0 k S
  have k1 : ∀ S, subD kd (.int 1) S = some (.bl k.p) := fun S => by rw [hkd]; exact kd1 k S
  have k2 : ∀ S, subD kd (.int 2) S = some (.int k.q) := fun S => by rw [hkd]; exact kd2 k S
  rw [← hkd]
  obtain ⟨S3, hS3⟩ : ∃ S3, S3 = ((S ++ [.lst (bad1 k)]) ++ [.lst (bad2 k)]) ++ [Ob.lst (bad1 k ++ bad2 k)] := ⟨_, rfl⟩
  obtain ⟨S4, hS4⟩ : ∃ S4, S4 = S3 ++ [Ob.lst bForms] := ⟨_, rfl⟩
  have hl3 : S3.length = S.length + 3 := by rw [hS3]; simp
  have hr : S4[S.length + 2]? = some (.lst (bad1 k ++ bad2 k)) := by
    rw [hS4, List.getElem?_append_left (by omega), hS3, List.getElem?_append_right (by simp)]
    simp
  have hf : S4[S.length + 3]? = some (.lst bForms) := by
    rw [hS4, List.getElem?_append_right (by omega), hl3]
    simp
  have kS : Kp none S S4 := by
    rw [hS4, hS3]; exact ((Kp.app.trans Kp.app).trans Kp.app).trans Kp.app
  have hit : evIt (FF n) (.itSeq (.lst (.cons (.tup (.cons (.cst (.int 3)) (.cons (.cst (.int 0)) (.cons (.cst (.int 0)) .nil)))) (.cons (.tup (.cons (.cst (.int 0)) (.cons (.neg (.cst (.int 3))) (.cons (.cst (.int 0)) .nil)))) (.cons (.tup (.cons (.cst (.int 0)) (.cons (.cst (.int 0)) (.cons (.cst (.int 3)) .nil)))) (.cons (.tup (.cons (.cst (.int 1)) (.cons (.cst (.int 0)) .nil))) (.cons (.tup (.cons (.cst (.int 1)) (.cons (.cst (.int 0)) (.cons (.cst (.int 0)) (.cons (.cst (.int 0)) .nil))))) (.cons (.tup (.cons (.cst (.bl true)) (.cons (.cst (.int 0)) (.cons (.cst (.int 0)) .nil)))) (.cons (.cst (.str "abc")) (.cons (.cst .non) .nil)))))))))) [some kd, some fullD, some (.ref (S.length + 2)), none] S3 = .ok (some (S.length + 3, bForms), bForms) S4 := by
    have hl : listAt S4 (S.length + 3) = some bForms := by simp [listAt, hf]
    rw [hS4] at hl ⊢
    simp [evIt, ev, evs, itemsOf, z2, z3, z4, z8, hl3]
    rw [show [D.tup [D.int 3, D.int 0, D.int 0], D.tup [D.int 0, D.int (-3), D.int 0], D.tup [D.int 0, D.int 0, D.int 3], D.tup [D.int 1, D.int 0], D.tup [D.int 1, D.int 0, D.int 0, D.int 0], D.tup [D.bl true, D.int 0, D.int 0], D.str "abc", D.non] = bForms from rfl, hl]
    rfl
  obtain ⟨ρ', S', e1, ⟨x3, rfl, g1, g2, g3⟩⟩ := exec_for (Φ := FF n) (t := .nm 3) (b := f27_l0)
    (fun i ρ S' => ∃ x3, ρ = [some kd, some fullD, some (.ref (S.length + 2)), x3] ∧ S'[S.length + 2]? = some (.lst ((bad1 k ++ bad2 k) ++ (bForms.take i).map (mkB k))) ∧ S'[S.length + 3]? = some (.lst bForms) ∧ Kp none S S') hit
    (fun i x ρ S' hx ⟨x3, hρ, g1, g2, g3⟩ => by
      subst hρ
      have hi : i < 8 := (List.getElem?_eq_some_iff.mp hx).1
      have hs : still (some (S.length + 3, bForms)) S' := by show listAt S' (S.length + 3) = _; simp [listAt, g2]
      have hL : isLst S' (.ref (S.length + 2)) = true := by simp [isLst, g1]
      have ht : bForms.take (i + 1) = bForms.take i ++ [x] := by rw [List.take_succ, hx]; rfl
      have hlen : ((bad1 k ++ bad2 k) ++ (bForms.take i).map (mkB k)).length < PySem.sizeLine := by
        rw [List.length_append, List.length_map, List.length_take]
        have : (bad1 k ++ bad2 k).length = 9 := rfl
        have h2 : (100 : Nat) < PySem.sizeLine := by decide
        omega
      have hM : mthD .append (.ref (S.length + 2)) [mkB k x] S' = .ok .non (S'.set (S.length + 2) (.lst ((bad1 k ++ bad2 k) ++ (bForms.take (i + 1)).map (mkB k)))) := by
        rw [ht, List.map_append, ← List.append_assoc]
        simp only [mthD, g1, hlen, if_true]
        rfl
      have hc : (cut (k.fs.map Fm.d) none (some 2)).length + 1 ≤ PySem.sizeLine := by have := cut2_len (k.fs.map Fm.d); have := z3; omega
      have et : ev (FF n) (.tup (.cons (.bin .add (.slc (.sub (.var 0) (.cst (.int 0))) .nil (.cons (.cst (.int 2)) .nil)) (.tup (.cons (.var 3) .nil))) (.cons (.sub (.var 0) (.cst (.int 1))) (.cons (.sub (.var 0) (.cst (.int 2))) .nil)))) [some kd, some fullD, some (.ref (S.length + 2)), some x] S' = .ok (mkB k x) S' := by
        simp [ev, evs, evP, k0, k1, k2, frs, slcD, binD, z1, z3, hc, mkB]
      refine ⟨hs, [some kd, some fullD, some (.ref (S.length + 2)), some x], [some kd, some fullD, some (.ref (S.length + 2)), some x], S'.set (S.length + 2) (.lst ((bad1 k ++ bad2 k) ++ (bForms.take (i + 1)).map (mkB k))), rfl, ?_, some x, rfl, ?_, ?_, g3.own (Nat.le_add_right _ _)⟩
      rotate_left
      · rw [List.getElem?_set_self (List.getElem?_eq_some_iff.mp g1).1]
      · rw [List.getElem?_set_ne (by omega)]; exact g2
      · have e0 : ev (FF n) (.var 2) [some kd, some fullD, some (.ref (S.length + 2)), some x] S' = .ok (.ref (S.length + 2)) S' := by simp [ev]
        rw [f27_l0, exec, exec, ev, e0, Res.bind_ok, if_pos hL, evs, et, Res.bind_ok, evs, Res.bind_ok, Res.bind_ok, hM]
        rfl)
    (fun ρ S' ⟨x3, _, _, g2, _⟩ => by show listAt S' (S.length + 3) = _; simp [listAt, g2])
    ⟨none, rfl, by simpa using hr, hf, kS⟩
  refine ⟨S.length + 2, S', ?_, g1, g3⟩
  have b1 : ev (FF n) (.tup (.cons (.tup (.cons (.cst (.int 1)) (.cons (.cst (.int 0)) (.cons (.cst (.int 0)) .nil)))) (.cons (.tup (.cons (.cst (.int 0)) (.cons (.cst (.int 1)) (.cons (.cst (.int 0)) .nil)))) (.cons (.tup (.cons (.cst (.int 0)) (.cons (.cst (.int 0)) (.cons (.cst (.int 1)) .nil)))) (.cons (.tup (.cons (.cst (.int 1)) (.cons (.cst (.int 1)) (.cons (.cst (.int 1)) .nil)))) .nil))))) [some kd, none, none, none] S = .ok fullD S := by
    simp [ev, evs, z3, z4, fullD]
  have b2 : ev (FF n) (.lst (.cons (.tup (.cons (.var 1) (.cons (.sub (.var 0) (.cst (.int 1))) (.cons (.sub (.var 0) (.cst (.int 2))) .nil)))) (.cons (.tup (.cons (.tup (.cons (.tup (.cons (.cst (.int 0)) (.cons (.cst (.int 0)) (.cons (.cst (.int 0)) .nil)))) .nil)) (.cons (.sub (.var 0) (.cst (.int 1))) (.cons (.sub (.var 0) (.cst (.int 2))) .nil)))) (.cons (.tup (.cons (.sub (.var 0) (.cst (.int 0))) (.cons (.cst (.int 1)) (.cons (.sub (.var 0) (.cst (.int 2))) .nil)))) (.cons (.cst .non) (.cons (.tup .nil) .nil)))))) [some kd, some fullD, none, none] S = .ok (.ref S.length) (S ++ [.lst (bad1 k)]) := by
    simp [ev, evs, z1, z3, z5, k0, k1, k2, bad1]
  have b3 : ev (FF n) (.lst (.cons (.tup (.cons (.sub (.var 0) (.cst (.int 0))) (.cons (.sub (.var 0) (.cst (.int 1))) (.cons (.cst (.int 3)) .nil)))) (.cons (.tup (.cons (.sub (.var 0) (.cst (.int 0))) (.cons (.sub (.var 0) (.cst (.int 1))) (.cons (.neg (.cst (.int 1))) .nil)))) (.cons (.tup (.cons (.sub (.var 0) (.cst (.int 0))) (.cons (.sub (.var 0) (.cst (.int 1))) .nil))) (.cons (.tup (.cons (.sub (.var 0) (.cst (.int 0))) (.cons (.sub (.var 0) (.cst (.int 1))) (.cons (.cst (.bl true)) .nil)))) .nil))))) [some kd, some fullD, some (.ref S.length), none] (S ++ [.lst (bad1 k)]) = .ok (.ref (S.length + 1)) ((S ++ [.lst (bad1 k)]) ++ [.lst (bad2 k)]) := by
    simp [ev, evs, z2, z3, z4, k0, k1, k2, bad2]
  have b4 : binD .add (.ref S.length) (.ref (S.length + 1)) ((S ++ [.lst (bad1 k)]) ++ [.lst (bad2 k)]) = .ok (.ref (S.length + 2)) S3 := by
    have h1 : ((S ++ [.lst (bad1 k)]) ++ [Ob.lst (bad2 k)])[S.length]? = some (.lst (bad1 k)) := by
      rw [List.getElem?_append_left (by simp)]; simp
    have h2 : ((S ++ [.lst (bad1 k)]) ++ [Ob.lst (bad2 k)])[S.length + 1]? = some (.lst (bad2 k)) := by
      rw [List.getElem?_append_right (by simp)]; simp
    have h3 : (bad1 k).length + (bad2 k).length ≤ PySem.sizeLine := z9
    simp only [binD, h1, h2, h3, if_true, hS3]
    simp
  have b5 : ev (FF n) (.bin .add (.var 2) (.lst (.cons (.tup (.cons (.sub (.var 0) (.cst (.int 0))) (.cons (.sub (.var 0) (.cst (.int 1))) (.cons (.cst (.int 3)) .nil)))) (.cons (.tup (.cons (.sub (.var 0) (.cst (.int 0))) (.cons (.sub (.var 0) (.cst (.int 1))) (.cons (.neg (.cst (.int 1))) .nil)))) (.cons (.tup (.cons (.sub (.var 0) (.cst (.int 0))) (.cons (.sub (.var 0) (.cst (.int 1))) .nil))) (.cons (.tup (.cons (.sub (.var 0) (.cst (.int 0))) (.cons (.sub (.var 0) (.cst (.int 1))) (.cons (.cst (.bl true)) .nil)))) .nil)))))) [some kd, some fullD, some (.ref S.length), none] (S ++ [.lst (bad1 k)]) = .ok (.ref (S.length + 2)) S3 := by
    have e0 : ev (FF n) (.var 2) [some kd, some fullD, some (.ref S.length), none] (S ++ [.lst (bad1 k)]) = .ok (.ref S.length) (S ++ [.lst (bad1 k)]) := by simp [ev]
    rw [ev, e0, Res.bind_ok, b3, Res.bind_ok, b4]
  have e1 : exec (FF n) f27_l1 [some kd, some fullD, some (.ref (S.length + 2)), none] S3 = .ok (.nx, [some kd, some fullD, some (.ref (S.length + 2)), x3]) S' := e1
  refine run_of (f := f27) (ρ' := [some kd, some fullD, some (.ref (S.length + 2)), x3]) rfl ((exec_cons (exec_set b1)).trans ((exec_cons (exec_set b2)).trans ((exec_cons (exec_set b5)).trans ((exec_cons e1).trans (exec_cons' (exec_ret ?_))))))
  simp [ev]
end K01
set_option autoImplicit true
set_option Elab.async false
set_option linter.all false
set_option maxRecDepth 100000
set_option maxHeartbeats 4000000
set_option autoImplicit false
/-! K01U: small functions of the law. -/
namespace K01
open Mi
theorem says {n : Nat} {b c : Bool} {S : Store} : FF (n + 1) 15 [.bl b, .bl c] S = .ok (.bl (b == c)) S := by
  rw [FF, Mi.F_def (f := f15) rfl]
  have : peq S (.bl b) (.bl c) = some (b == c) := peq_flat (k := 0) (j := 0) rfl rfl (by decide) (by decide)
  simp [runFn, f15, exec, ev, evs, evAnd, isiD, cmpD, truthD, this]
theorem isInteger {n : Nat} {i : Int} {S : Store} : FF (n + 1) 16 [.int i] S = .ok (.bl true) S := by
  rw [FF, Mi.F_def (f := f16) rfl]
  simp [runFn, f16, exec, ev, evs, evAnd, isiD, truthD]
end K01
set_option autoImplicit true
set_option Elab.async false
set_option linter.all false
set_option maxRecDepth 100000
set_option maxHeartbeats 4000000
set_option autoImplicit false
/-! K01V: bad kernels are none. -/
namespace K01
open Mi
/-- no references, short tuples -/
def nrf : Nat → D → Bool
  | _, .ref _ => false
  | 0, .tup _ => false
  | k + 1, .tup ds => decide (ds.length ≤ 10) && ds.all (nrf k)
  | _, _ => true
theorem nrf_okD {S : Store} {k : Nat} {d : D} (h : nrf k d = true) : okD S d := fun n e => by
  subst e
  cases k <;> cases h
theorem nrf_tup {k : Nat} {ds : List D} (h : nrf k (.tup ds) = true) : ∃ j, k = j + 1 ∧ ds.length ≤ 10 ∧ ∀ d ∈ ds, nrf j d = true := by
  cases k with
  | zero => cases h
  | succ j =>
    have h' : (decide (ds.length ≤ 10) && ds.all (nrf j)) = true := h
    rw [Bool.and_eq_true, List.all_eq_true] at h'
    exact ⟨j, rfl, of_decide_eq_true h'.1, h'.2⟩
theorem nrf_seq {S : Store} {k : Nat} {d : D} {ds : List D} (h : nrf k d = true) (e : seqOf S d = some ds) : d = .tup ds := by
  cases d with
  | tup xs => cases e; rfl
  | ref n => cases k <;> cases h
  | _ => cases e
theorem nrf_okS {S : Store} {k : Nat} {d : D} (h : nrf k d = true) : okS S d := by
  have hz : (10 : Nat) ≤ PySem.sizeLine := by decide
  refine ⟨nrf_okD h, fun es e => ?_, fun es e => ?_⟩
  · have := nrf_seq h e
    subst this
    obtain ⟨j, _, _, h3⟩ := nrf_tup h
    exact fun d hd => nrf_okD (h3 d hd)
  · have := nrf_seq h e
    subst this
    obtain ⟨j, _, h2, _⟩ := nrf_tup h
    omega
theorem nrf_okK {S : Store} {k : Nat} {d : D} (h : nrf k d = true) : okK S d := by
  refine ⟨nrf_okS h, fun rows pre pro e => ?_⟩
  have := nrf_seq h e
  subst this
  obtain ⟨j, _, _, h3⟩ := nrf_tup h
  have hr := h3 rows (by simp)
  refine ⟨nrf_okS hr, fun rs e r hm => ?_⟩
  have := nrf_seq hr e
  subst this
  obtain ⟨j', _, _, h4⟩ := nrf_tup hr
  exact nrf_okS (h4 r hm)
theorem nrf_fm (f : Fm) (k : Nat) : nrf (k + 1) f.d = true := by simp [nrf, Fm.d]
theorem nrf_mono_leaf : ∀ (k : Nat) (d : D), nrf k d = true → nrf (k + 1) d = true := by
  intro k
  induction k with
  | zero => intro d h; cases d <;> first | rfl | cases h
  | succ k ih =>
    intro d h
    cases d with
    | tup ds =>
      obtain ⟨j, e, h2, h3⟩ := nrf_tup h
      have : k = j := by omega
      subst this
      show (decide (ds.length ≤ 10) && ds.all (nrf (k + 1))) = true
      rw [Bool.and_eq_true, List.all_eq_true]
      exact ⟨decide_eq_true h2, fun d hd => ih d (h3 d hd)⟩
    | ref n => cases h
    | _ => rfl
theorem frs_seq (k : Kn) (S : Store) : seqOf S (frs k) = some (k.fs.map Fm.d) := rfl
/-- a kernel with a wrong form among three at most -/
theorem kern_form {S : Store} {rs : List D} {p q : D} (h : ∃ r ∈ rs, formR S r = .non) : kernR S (.tup [.tup rs, p, q]) = .non := by
  obtain ⟨r, hm, hr⟩ := h
  have h1 : (rs.map (formR S)).any isNonD = true := List.any_eq_true.mpr ⟨_, List.mem_map.mpr ⟨r, hm, hr⟩, rfl⟩
  show (if rs.length ≤ 3 then (if (rs.map (formR S)).any isNonD = true then D.non else _) else D.non) = _
  rw [if_pos h1]
  split <;> rfl
theorem kern_flag {S : Store} {rs : List D} {p q : D} (h : (isBlD p && inR 0 2 q) = false) : kernR S (.tup [.tup rs, p, q]) = .non := by
  show (if rs.length ≤ 3 then (if (rs.map (formR S)).any isNonD = true then D.non else if (isBlD p && inR 0 2 q) = true then _ else D.non) else D.non) = _
  rw [h]
  split
  · split <;> rfl
  · rfl
theorem nrf_frs {k : Kn} (hk : k.ok) : nrf 2 (frs k) = true := by
  show (decide ((k.fs.map Fm.d).length ≤ 10) && (k.fs.map Fm.d).all (nrf 1)) = true
  rw [Bool.and_eq_true, List.all_eq_true, List.length_map]
  refine ⟨decide_eq_true (by have := hk.len; omega), fun d hd => ?_⟩
  obtain ⟨f, _, rfl⟩ := List.mem_map.mp hd
  exact nrf_fm f 0
theorem nrf_three {a b c : D} {j : Nat} (h1 : nrf j a = true) (h2 : nrf j b = true) (h3 : nrf j c = true) : nrf (j + 1) (.tup [a, b, c]) = true := by
  simp [nrf, h1, h2, h3]
theorem nrf_mk {k : Kn} {f : D} (hf : nrf 1 f = true) : nrf 3 (mkB k f) = true := by
  refine nrf_three ?_ rfl rfl
  show (decide ((cut (k.fs.map Fm.d) none (some 2) ++ [f]).length ≤ 10) && (cut (k.fs.map Fm.d) none (some 2) ++ [f]).all (nrf 1)) = true
  rw [Bool.and_eq_true, List.all_eq_true, List.length_append]
  refine ⟨decide_eq_true (by have := cut2_len (k.fs.map Fm.d); show _ + 1 ≤ 10; omega), fun d hd => ?_⟩
  rcases List.mem_append.mp hd with hd | hd
  · obtain ⟨f, _, rfl⟩ := List.mem_map.mp (List.mem_of_mem_drop (List.mem_of_mem_take hd))
    exact nrf_fm f 0
  · rw [List.mem_singleton.mp hd]; exact hf
theorem bad_form {f : D} (S : Store) (h : f ∈ bForms) : nrf 1 f = true ∧ formR S f = .non := by
  simp only [bForms, List.mem_cons, List.not_mem_nil, or_false] at h
  rcases h with rfl | rfl | rfl | rfl | rfl | rfl | rfl | rfl <;> exact ⟨by rfl, by rfl⟩
theorem bad_non {k : Kn} (hk : k.ok) {S : Store} {d : D} (hd : d ∈ bads k) : okK S d ∧ kernR S d = .non := by
  rw [bads, List.mem_append, List.mem_append] at hd
  have hr := nrf_frs hk
  rcases hd with (hd | hd) | hd
  · simp only [bad1, List.mem_cons, List.not_mem_nil, or_false] at hd
    rcases hd with rfl | rfl | rfl | rfl | rfl
    · exact ⟨nrf_okK (k := 3) (nrf_three rfl rfl rfl), by rfl⟩
    · exact ⟨nrf_okK (k := 3) (nrf_three rfl rfl rfl), kern_form ⟨_, List.mem_singleton.mpr rfl, by rfl⟩⟩
    · exact ⟨nrf_okK (k := 3) (nrf_three hr rfl rfl), kern_flag rfl⟩
    · exact ⟨nrf_okK (k := 0) rfl, by rfl⟩
    · exact ⟨nrf_okK (k := 1) rfl, by rfl⟩
  · simp only [bad2, List.mem_cons, List.not_mem_nil, or_false] at hd
    rcases hd with rfl | rfl | rfl | rfl
    · exact ⟨nrf_okK (k := 3) (nrf_three hr rfl rfl), kern_flag rfl⟩
    · exact ⟨nrf_okK (k := 3) (nrf_three hr rfl rfl), kern_flag rfl⟩
    · exact ⟨nrf_okK (k := 3) (by simp [nrf]; exact hr), by rfl⟩
    · exact ⟨nrf_okK (k := 3) (nrf_three hr rfl rfl), kern_flag rfl⟩
  · obtain ⟨f, hf, rfl⟩ := List.mem_map.mp hd
    obtain ⟨h1, h2⟩ := bad_form S hf
    exact ⟨nrf_okK (nrf_mk h1), kern_form ⟨f, by simp, h2⟩⟩
end K01
set_option autoImplicit true
set_option Elab.async false
set_option linter.all false
set_option maxRecDepth 100000
set_option maxHeartbeats 4000000
set_option autoImplicit false
/-! K01W: named. -/
namespace K01
open Mi
theorem named {n : Nat} {x : PySem.Str} {d : D} {p : Bool} {q : Int} {S : Store} (hx : _FORMS_kv.lookup x = some d) (hq : 0 ≤ q ∧ q ≤ 2) : FF (n + 3) 14 [.str x, .bl p, .int q] S = .ok (.tup [d, .bl p, .int q]) S := by
  rw [FF, Mi.F_def (f := f14) rfl]
  have e1 : FF (n + 2) 30 [.str x] S = .ok d S := by
    rw [FF, Mi.F_look (by decide)]
    show ofO (_FORMS_kv.lookup x) S = _
    rw [hx]; rfl
  have e2 : FF (n + 2) 2 [.int q, .int 0, .int 2] S = .ok (.bl true) S := by
    rw [inn (okD_int S q)]; simp [inR, hq]
  simp [runFn, f14, exec, ev, evs, evT, evAny, isiD, truthD, e1, e2, z3, hx]
end K01
set_option autoImplicit true
set_option Elab.async false
set_option linter.all false
set_option maxRecDepth 100000
set_option maxHeartbeats 4000000
set_option autoImplicit false
/-! K01X: the kernels told. -/
namespace K01
open Mi
/-- so many references in a row -/
def refs (b : Nat) : Nat → List D
  | 0 => []
  | n + 1 => .ref b :: refs (b + 1) n
theorem comp_grow {step : D → M (Option D)} {g : D → List D} : ∀ {xs acc : List D} {S : Store}, acc.length + xs.length ≤ PySem.sizeLine → (∀ x ∈ xs, ∀ S, step x S = .ok (some (.ref S.length)) (S ++ [.lst (g x)])) → comp none step xs acc S = .ok (acc ++ refs S.length xs.length) (S ++ xs.map fun x => .lst (g x))
  | [], acc, S, _, _ => by rw [comp, if_pos (show still none S from trivial)]; simp [refs]
  | x :: xs, acc, S, hl, h => by
    simp only [List.length_cons] at hl
    rw [comp, if_pos (show still none S from trivial), h x List.mem_cons_self S]
    show (if acc.length < PySem.sizeLine then _ else _) = _
    rw [if_pos (by omega), comp_grow (by simp; omega) fun y hy => h y (List.mem_cons_of_mem _ hy)]
    simp [refs]
theorem refs_get : ∀ (n b i : Nat), i < n → (refs b n)[i]? = some (.ref (b + i))
  | 0, _, _, h => by omega
  | n + 1, b, 0, _ => rfl
  | n + 1, b, i + 1, h => by
    show (refs (b + 1) n)[i]? = _
    rw [refs_get n (b + 1) i (by omega), show b + 1 + i = b + (i + 1) by omega]
theorem refs_len : ∀ n b : Nat, (refs b n).length = n
  | 0, _ => rfl
  | n + 1, b => by show (refs (b + 1) n).length + 1 = _; rw [refs_len]
def fL (f : Fm) : List D := [.int f.1, .int f.2.1, .int f.2.2]
theorem formR_list {S : Store} {d : D} {f : Fm} (h : seqOf S d = some (fL f)) (hs : Small f) (h0 : f ≠ (0, 0, 0)) : formR S d = f.d := by
  obtain ⟨a, b, c⟩ := f
  obtain ⟨r1, r2, r3, r4, r5, r6⟩ := hs
  simp only at r1 r2 r3 r4 r5 r6
  have : formOk (fL (a, b, c)) = true := by
    simp only [fL, formOk, List.length_cons, List.length_nil, List.all_cons, List.all_nil, inR, r1, r2, r3, r4, r5, r6, decide_true, Bool.and_self, Bool.and_true, beq_self_eq_true, Bool.true_and, Bool.not_eq_true']
    cases h : (a == 0 && (b == 0 && c == 0)) with
    | false => rfl
    | true =>
      simp only [Bool.and_eq_true, beq_iff_eq] at h
      exact absurd (by rw [h.1, h.2.1, h.2.2]) h0
  unfold formR
  rw [h]
  show (if formOk (fL (a, b, c)) = true then D.tup (fL (a, b, c)) else .non) = _
  rw [if_pos this]
  rfl
/-- a list of lists that tells a kernel -/
structure Loose (S : Store) (d : D) (k : Kn) where
  r : Nat
  rs : List D
  e : seqOf S d = some [.ref r, .bl k.p, .int k.q]
  e' : listAt S r = some rs
  len : rs.length = k.fs.length
  at_ : ∀ (i : Nat) (f : Fm), k.fs[i]? = some f → ∃ a, rs[i]? = some (.ref a) ∧ listAt S a = some (fL f)
theorem Loose.kern {S : Store} {d : Nat} {k : Kn} (h : Loose S (.ref d) k) (hk : k.ok) : okK S (.ref d) ∧ kernR S (.ref d) = k.d := by
  have hz : (3 : Nat) ≤ PySem.sizeLine := z3
  have hel : ∀ x ∈ h.rs, ∃ f ∈ k.fs, ∃ a, x = .ref a ∧ listAt S a = some (fL f) := fun x hx => by
    obtain ⟨i, hi⟩ := List.mem_iff_getElem?.mp hx
    have hl := (List.getElem?_eq_some_iff.mp hi).1
    rw [h.len] at hl
    obtain ⟨a, h1, h2⟩ := h.at_ i _ (List.getElem?_eq_getElem hl)
    rw [hi] at h1
    exact ⟨_, List.getElem_mem hl, a, Option.some.inj h1, h2⟩
  have okR : ∀ a ds, listAt S a = some ds → okD S (.ref a) := fun a ds e n e' => by cases e'; rw [e]; exact fun h => by cases h
  have hrows : okS S (.ref h.r) := by
    refine ⟨okR _ _ h.e', fun es e => ?_, fun es e => ?_⟩
    · have : es = h.rs := Option.some.inj (e.symm.trans h.e')
      subst this
      intro x hx
      obtain ⟨f, _, a, rfl, ha⟩ := hel x hx
      exact okR _ _ ha
    · have : es = h.rs := Option.some.inj (e.symm.trans h.e')
      rw [this, h.len]; have := hk.len; omega
  refine ⟨⟨⟨okR _ _ h.e, fun es e => ?_, fun es e => ?_⟩, fun rows pre pro e => ?_⟩, ?_⟩
  · have : es = _ := Option.some.inj (e.symm.trans h.e)
    subst this
    intro x hx
    simp only [List.mem_cons, List.not_mem_nil, or_false] at hx
    rcases hx with rfl | rfl | rfl
    · exact hrows.ok
    · exact okD_bl S _
    · exact okD_int S _
  · have : es = _ := Option.some.inj (e.symm.trans h.e)
    rw [this]; exact z3
  · have := Option.some.inj (e.symm.trans h.e)
    cases this
    refine ⟨hrows, fun rs e r hr => ?_⟩
    have : rs = h.rs := Option.some.inj (e.symm.trans h.e')
    subst this
    obtain ⟨f, _, a, rfl, ha⟩ := hel r hr
    refine ⟨okR _ _ ha, fun es e => ?_, fun es e => ?_⟩
    · have : es = _ := Option.some.inj (e.symm.trans ha)
      subst this
      intro x hx
      simp only [fL, List.mem_cons, List.not_mem_nil, or_false] at hx
      rcases hx with rfl | rfl | rfl <;> exact okD_int S _
    · have : es = _ := Option.some.inj (e.symm.trans ha)
      rw [this]; exact z3
  · have e1 : h.rs.map (formR S) = k.fs.map Fm.d := by
      apply List.ext_getElem?
      intro i
      rw [List.getElem?_map, List.getElem?_map]
      cases hf : k.fs[i]? with
      | none =>
        have : h.rs[i]? = none := by rw [List.getElem?_eq_none_iff, h.len]; exact List.getElem?_eq_none_iff.mp hf
        rw [this]; rfl
      | some f =>
        obtain ⟨a, h1, h2⟩ := h.at_ i f hf
        obtain ⟨r1, r2, r3, r4, r5, r6, r7⟩ := hk.rng f (List.mem_of_getElem? hf)
        rw [h1]
        show some (formR S (.ref a)) = some f.d
        rw [formR_list (f := f) (show seqOf S (.ref a) = _ from h2) ⟨r1, r2, r3, r4, r5, r6⟩ r7]
    have e3 : (k.fs.map Fm.d).any isNonD = false := by
      rw [List.any_eq_false]
      intro d hd
      obtain ⟨f, _, rfl⟩ := List.mem_map.mp hd
      exact fun h => by cases h
    unfold kernR
    rw [h.e]
    show (match listAt S h.r with | some rs => if rs.length ≤ 3 then (if (rs.map (formR S)).any isNonD = true then D.non else if (isBlD (.bl k.p) && inR 0 2 (.int k.q)) = true then .tup [.tup (rs.map (formR S)), .bl k.p, .int k.q] else .non) else .non | none => .non) = _
    rw [h.e']
    show (if h.rs.length ≤ 3 then (if (h.rs.map (formR S)).any isNonD = true then D.non else if (isBlD (.bl k.p) && inR 0 2 (.int k.q)) = true then .tup [.tup (h.rs.map (formR S)), .bl k.p, .int k.q] else .non) else .non) = _
    rw [e1, if_pos (by rw [h.len]; exact hk.len), e3, if_neg (by decide), if_pos (by simp [isBlD, inR, hk.q])]
    rfl
end K01
set_option autoImplicit true
set_option Elab.async false
set_option linter.all false
set_option maxRecDepth 100000
set_option maxHeartbeats 4000000
set_option autoImplicit false
/-! K01Xb: the kernels told. -/
namespace K01
open Mi
theorem flat_kd (k : Kn) : flat 3 k.d = true := by
  have : (k.fs.map Fm.d).all (flat 1) = true := by
    rw [List.all_eq_true]
    intro d hd
    obtain ⟨f, _, rfl⟩ := List.mem_map.mp hd
    rfl
  simp only [flat, Kn.d, List.all_cons, List.all_nil, Bool.and_true]
  exact this
def dctKv : List (L2.Key × D) := [(.inr "levels", .tup [.tup [.int 1, .int 0, .int 0]]), (.inr "due", .tup [.tup [.int 0, .int 1, .int 1]]), (.inr "came", .tup [.tup [.int 0, .int 1, .int 0]]), (.inr "bounds", .tup [.tup [.int 0, .int 0, .int 1]]), (.inr "numbers", .tup [])]
def names : List D := [.str "levels", .str "due", .str "came", .str "bounds", .str "numbers"]
theorem isd_tt : isD (.bl true) (.bl true) = some true := rfl
theorem isd_ff : isD (.bl false) (.bl false) = some true := rfl
theorem told28 {n : Nat} {k : Kn} (hk : k.ok) {S : Store} : ∃ S', FF (n + 7) 28 [k.d] S = .ok (.bl true) S' ∧ Kp none S S' := by
  rw [FF, Mi.F_def (f := f28) rfl]
  obtain ⟨kd, hkd⟩ : ∃ d, d = k.d := ⟨_, rfl⟩
  have k0 : ∀ S, subD kd (.int 0) S = some (frs k) := fun S => by rw [hkd]; exact kd0 k S
  have k1 : ∀ S, subD kd (.int 1) S = some (.bl k.p) := fun S => by rw [hkd]; exact kd1 k S
  have k2 : ∀ S, subD kd (.int 2) S = some (.int k.q) := fun S => by rw [hkd]; exact kd2 k S
  have hz : k.fs.length ≤ PySem.sizeLine := by have := hk.len; have := z4; omega
  have z5 : 5 ≤ PySem.sizeLine := by decide
  rw [← hkd]
  -- the loose kernel
  obtain ⟨S1, hS1⟩ : ∃ S1, S1 = S ++ (k.fs.map Fm.d).map (fun x => Ob.lst (match x with | .tup ds => ds | _ => [])) := ⟨_, rfl⟩
  obtain ⟨S2, hS2⟩ : ∃ S2, S2 = S1 ++ [Ob.lst (refs S.length k.fs.length)] := ⟨_, rfl⟩
  obtain ⟨S3, hS3⟩ : ∃ S3, S3 = S2 ++ [Ob.lst [.ref S1.length, .bl k.p, .int k.q]] := ⟨_, rfl⟩
  have l1 : S1.length = S.length + k.fs.length := by rw [hS1]; simp
  have g1 : ∀ (i : Nat) (f : Fm), k.fs[i]? = some f → S1[S.length + i]? = some (.lst (fL f)) := fun i f hf => by
    rw [hS1, List.getElem?_append_right (by omega), Nat.add_sub_cancel_left, List.getElem?_map, List.getElem?_map, hf]
    rfl
  have e4 : ev (FF (n + 6)) f28_e4 [some kd, none, none, none, none, none] S = .ok (.ref S1.length) S2 := by
    have hit : evIt (FF (n + 6)) (.itSeq (.sub (.var 0) (.cst (.int 0)))) [some kd, none, none, none, none, none] S = .ok (none, k.fs.map Fm.d) S := by
      simp [evIt, ev, k0, frs, itemsOf]
    show (evIt (FF (n + 6)) (.itSeq (.sub (.var 0) (.cst (.int 0)))) [some kd, none, none, none, none, none] S).bind (fun its S => (comp its.1 (gstep (FF (n + 6)) (wipeE [some kd, none, none, none, none, none] [2]) (.nm 2) .nil (.fn .list (.cons (.var 2) .nil))) its.2 [] S).bind fun acc S => Res.ok (D.ref S.length) (S ++ [Ob.lst acc])) = _
    rw [hit, Res.bind_ok]
    show (comp none _ (k.fs.map Fm.d) [] S).bind _ = _
    rw [comp_grow (g := fun x => match x with | .tup ds => ds | _ => []) (by simpa using hz) (fun x hx S => by
      obtain ⟨f, _, rfl⟩ := List.mem_map.mp hx
      simp [gstep, asg, evAll, ev, evs, wipeE, fnD, seqOf, Fm.d])]
    rw [Res.bind_ok, List.length_map, List.nil_append, ← hS1, hS2]
  have e5 : ev (FF (n + 6)) (.lst (.cons f28_e4 (.cons (.sub (.var 0) (.cst (.int 1))) (.cons (.sub (.var 0) (.cst (.int 2))) .nil)))) [some kd, none, none, none, none, none] S = .ok (.ref S2.length) S3 := by
    rw [ev, evs, e4, Res.bind_ok, hS3]
    simp [ev, evs, k1, k2, z3]
  have l2 : S2.length = S1.length + 1 := by rw [hS2]; simp
  have l3 : S3.length = S2.length + 1 := by rw [hS3]; simp
  have k3 : Kp none S S3 := by rw [hS3, hS2, hS1]; exact (Kp.app.trans Kp.app).trans Kp.app
  have g3 : S3[S2.length]? = some (.lst [.ref S1.length, .bl k.p, .int k.q]) := by rw [hS3]; simp
  have g2 : S3[S1.length]? = some (.lst (refs S.length k.fs.length)) := by rw [hS3, List.getElem?_append_left (by omega), hS2]; simp
  have g4 : ∀ (i : Nat) (f : Fm), k.fs[i]? = some f → S3[S.length + i]? = some (.lst (fL f)) := fun i f hf => by
    have := (List.getElem?_eq_some_iff.mp hf).1
    rw [hS3, List.getElem?_append_left (by omega), hS2, List.getElem?_append_left (by omega)]; exact g1 i f hf
  have loose : ∀ X : Store, ∀ d : Nat, (S3 ++ X)[d]? = some (.lst [.ref S1.length, .bl k.p, .int k.q]) → Loose (S3 ++ X) (.ref d) k := fun X d hd => by
    refine ⟨S1.length, refs S.length k.fs.length, by simp [seqOf, listAt, hd], ?_, refs_len _ _, fun i f hf => ?_⟩
    · have : (S3 ++ X)[S1.length]? = some (.lst (refs S.length k.fs.length)) := by rw [List.getElem?_append_left (List.getElem?_eq_some_iff.mp g2).1]; exact g2
      simp [listAt, this]
    · have h4 := g4 i f hf
      have : (S3 ++ X)[S.length + i]? = some (.lst (fL f)) := by rw [List.getElem?_append_left (List.getElem?_eq_some_iff.mp h4).1]; exact h4
      exact ⟨S.length + i, refs_get _ _ _ (List.getElem?_eq_some_iff.mp hf).1, by simp [listAt, this]⟩
  obtain ⟨S4, hS4⟩ : ∃ S4, S4 = S3 ++ [Ob.lst [.ref S1.length, .bl k.p, .int k.q]] := ⟨_, rfl⟩
  obtain ⟨S5, hS5⟩ : ∃ S5, S5 = S4 ++ [Ob.lst [.ref S1.length, .bl k.p, .int k.q]] := ⟨_, rfl⟩
  have l4 : S4.length = S3.length + 1 := by rw [hS4]; simp
  have lo4 : Loose S4 (.ref S3.length) k := by rw [hS4]; exact loose _ _ (by simp)
  have lo5 : Loose S5 (.ref S4.length) k := by
    rw [hS5, hS4, List.append_assoc]
    refine loose _ _ ?_
    rw [← List.append_assoc, ← hS4]; simp
  have q3 : fnD .list [.ref S2.length] S3 = .ok (.ref S3.length) S4 := by simp [fnD, seqOf, listAt, g3, hS4]
  have g3' : S4[S2.length]? = some (.lst [.ref S1.length, .bl k.p, .int k.q]) := by rw [hS4, List.getElem?_append_left (by omega)]; exact g3
  have q4 : fnD .list [.ref S2.length] S4 = .ok (.ref S4.length) S5 := by simp [fnD, seqOf, listAt, g3', hS5]
  have m1 : FF (n + 6) 10 [kd] S3 = .ok (.bl true) S3 := by
    obtain ⟨h1, h2⟩ := kern_self hk S3
    rw [hkd, isKern (n := n + 1) h1, h2]; rfl
  have m2 : FF (n + 6) 10 [.ref S3.length] S4 = .ok (.bl true) S4 := by
    obtain ⟨h1, h2⟩ := lo4.kern hk
    rw [isKern (n := n + 1) h1, h2]; rfl
  have m3 : FF (n + 6) 11 [.ref S4.length] S5 = .ok kd S5 := by
    obtain ⟨h1, h2⟩ := lo5.kern hk
    rw [kernOf h1 h2 (by rw [Kn.d]; rfl) (by rw [Kn.d]; rfl), hkd]
  have q5 : peq S5 kd kd = some true := by rw [hkd]; exact peq_self (flat_kd k) (by decide)
  obtain ⟨ρ1, hρ1⟩ : ∃ ρ : Mi.Env, ρ = [some kd, some (.ref S2.length), none, none, none, none] := ⟨_, rfl⟩
  have t1 : evT (FF (n + 6)) (.or (.cons (.tr (.cmp .isnot (.call 10 (.cons (.var 0) .nil)) (.cst (.bl true)))) (.cons (.tr (.cmp .isnot (.call 10 (.cons (.fn .list (.cons (.var 1) .nil)) .nil)) (.cst (.bl true)))) (.cons (.tr (.cmp .ne (.call 11 (.cons (.fn .list (.cons (.var 1) .nil)) .nil)) (.var 0))) .nil)))) ρ1 S3 = .ok false S5 := by
    rw [hρ1]
    simp [evT, evAny, ev, evs, m1, q3, m2, q4, m3, cmpD, isd_tt, q5, truthD]
  -- the bad ones
  obtain ⟨r, S6, e6, g6, k6⟩ := badK (n := n + 5) (k := k) (S := S5)
  rw [← hkd] at e6
  have hl6 : listAt S6 r = some (bads k) := by simp [listAt, g6]
  have hit : evIt (FF (n + 6)) (.itSeq (.call 27 (.cons (.var 0) .nil))) ρ1 S5 = .ok (some (r, bads k), bads k) S6 := by
    rw [hρ1]
    simp [evIt, ev, evs, e6, itemsOf, hl6]
  obtain ⟨ρ2, S7, e7, ⟨x3, hρ2, hS7⟩⟩ := exec_for (Φ := FF (n + 6)) (t := .nm 3) (b := f28_l2)
    (fun i ρ S' => ∃ x3, ρ = [some kd, some (.ref S2.length), none, x3, none, none] ∧ S' = S6) hit
    (fun i x ρ S' hx ⟨x3, hρ, hS'⟩ => by
      subst hρ hS'
      obtain ⟨h1, h2⟩ := bad_non hk (S := S') (List.mem_of_getElem? hx)
      have m : FF (n + 6) 10 [x] S' = .ok (.bl false) S' := by rw [isKern (n := n + 1) h1, h2]; rfl
      refine ⟨hl6, [some kd, some (.ref S2.length), none, some x, none, none], [some kd, some (.ref S2.length), none, some x, none, none], S', rfl, ?_, some x, rfl, rfl⟩
      simp [f28_l2, exec, evT, ev, evs, m, cmpD, isd_ff, truthD])
    (fun ρ S' ⟨_, _, hS'⟩ => by subst hS'; exact hl6) ⟨none, hρ1, rfl⟩
  subst hρ2 hS7
  obtain ⟨S8, hS8⟩ : ∃ S8, S8 = S7 ++ [Ob.dct dctKv] := ⟨_, rfl⟩
  have e8 : ev (FF (n + 6)) (.dsp ["levels", "due", "came", "bounds", "numbers"] (.cons (.tup (.cons (.tup (.cons (.cst (.int 1)) (.cons (.cst (.int 0)) (.cons (.cst (.int 0)) .nil)))) .nil)) (.cons (.tup (.cons (.tup (.cons (.cst (.int 0)) (.cons (.cst (.int 1)) (.cons (.cst (.int 1)) .nil)))) .nil)) (.cons (.tup (.cons (.tup (.cons (.cst (.int 0)) (.cons (.cst (.int 1)) (.cons (.cst (.int 0)) .nil)))) .nil)) (.cons (.tup (.cons (.tup (.cons (.cst (.int 0)) (.cons (.cst (.int 0)) (.cons (.cst (.int 1)) .nil)))) .nil)) (.cons (.tup .nil) .nil)))))) [some kd, some (.ref S2.length), none, x3, none, none] S7 = .ok (.ref S7.length) S8 := by
    have nd : (["levels", "due", "came", "bounds", "numbers"] : List PySem.Str).Nodup := by decide
    rw [ev]
    simp only [ev, evs, Res.bind_ok, List.length_cons, List.length_nil, z1, z3, Nat.zero_le, Nat.zero_add, Nat.reduceAdd, if_true]
    rw [if_pos ⟨trivial, nd, by decide⟩, hS8]
    rfl
  have g8 : S8[S7.length]? = some (.dct dctKv) := by rw [hS8]; simp
  obtain ⟨S9, hS9⟩ : ∃ S9, S9 = S8 ++ [Ob.lst names] := ⟨_, rfl⟩
  have g9 : S9[S7.length]? = some (.dct dctKv) := by rw [hS9, List.getElem?_append_left (List.getElem?_eq_some_iff.mp g8).1]; exact g8
  have hl9 : listAt S9 S8.length = some names := by rw [hS9]; simp [listAt]
  have hit2 : evIt (FF (n + 6)) (.itSeq (.lst (.cons (.cst (.str "levels")) (.cons (.cst (.str "due")) (.cons (.cst (.str "came")) (.cons (.cst (.str "bounds")) (.cons (.cst (.str "numbers")) .nil))))))) [some kd, some (.ref S2.length), none, x3, some (.ref S7.length), none] S8 = .ok (some (S8.length, names), names) S9 := by
    have hl9' : listAt (S8 ++ [.lst [.str "levels", .str "due", .str "came", .str "bounds", .str "numbers"]]) S8.length = some [.str "levels", .str "due", .str "came", .str "bounds", .str "numbers"] := by simp [listAt]
    simp only [evIt, ev, evs, Res.bind_ok, List.length_cons, List.length_nil, z5, Nat.zero_add, Nat.reduceAdd, if_true, itemsOf, hl9', Option.map_some, ofO_some]
    rw [hS9]; rfl
  have one : ∀ x ∈ names, ∃ y d, x = .str y ∧ _FORMS_kv.lookup y = some d ∧ subD (.ref S7.length) (.str y) S9 = some d ∧ flat 3 d = true := fun x hx => by
    simp only [names, List.mem_cons, List.not_mem_nil, or_false] at hx
    have e : ∀ y, subD (.ref S7.length) (.str y) S9 = dvl dctKv (.inr y) := fun y => by simp [subD, g9]
    rcases hx with rfl | rfl | rfl | rfl | rfl
    · exact ⟨"levels", _, rfl, by rfl, by rw [e]; rfl, by rfl⟩
    · exact ⟨"due", _, rfl, by rfl, by rw [e]; rfl, by rfl⟩
    · exact ⟨"came", _, rfl, by rfl, by rw [e]; rfl, by rfl⟩
    · exact ⟨"bounds", _, rfl, by rfl, by rw [e]; rfl, by rfl⟩
    · exact ⟨"numbers", _, rfl, by rfl, by rw [e]; rfl, by rfl⟩
  obtain ⟨ρ3, S10, e10, ⟨x5, hρ3, hS10⟩⟩ := exec_for (Φ := FF (n + 6)) (t := .nm 5) (b := f28_l0)
    (fun i ρ S' => ∃ x5, ρ = [some kd, some (.ref S2.length), none, x3, some (.ref S7.length), x5] ∧ S' = S9) hit2
    (fun i x ρ S' hx ⟨x5, hρ, hS'⟩ => by
      subst hρ hS'
      obtain ⟨y, d, rfl, h1, h2, h3⟩ := one x (List.mem_of_getElem? hx)
      refine ⟨hl9, [some kd, some (.ref S2.length), none, x3, some (.ref S7.length), some (.str y)], [some kd, some (.ref S2.length), none, x3, some (.ref S7.length), some (.str y)], S', rfl, ?_, some (.str y), rfl, rfl⟩
      have m := named (n := n + 3) (p := k.p) (S := S') h1 hk.q
      have q : peq S' (.tup [d, .bl k.p, .int k.q]) (.tup [d, .bl k.p, .int k.q]) = some true := peq_self (k := 4) (by simp [flat, h3]) (by decide)
      simp [f28_l0, exec, evT, ev, evs, k1, k2, m, h2, z3, cmpD, q, truthD])
    (fun ρ S' ⟨_, _, hS'⟩ => by subst hS'; exact hl9) ⟨none, rfl, rfl⟩
  subst hρ3 hS10
  have k10 : Kp none S S10 := by
    have a : Kp none S S5 := by rw [hS5, hS4]; exact (k3.trans Kp.app).trans Kp.app
    have b : Kp none S S7 := a.trans k6
    rw [hS9, hS8]; exact (b.trans Kp.app).trans Kp.app
  refine ⟨S10, ?_, k10⟩
  refine run_of (f := f28) (ρ' := [some kd, some (.ref S2.length), none, x3, some (.ref S7.length), x5]) rfl ?_
  show exec (FF (n + 6)) f28.body [some kd, none, none, none, none, none] S = _
  refine (exec_cons (exec_set e5)).trans ?_
  have b2 : exec (FF (n + 6)) (.iff (.or (.cons (.tr (.cmp .isnot (.call 10 (.cons (.var 0) .nil)) (.cst (.bl true)))) (.cons (.tr (.cmp .isnot (.call 10 (.cons (.fn .list (.cons (.var 1) .nil)) .nil)) (.cst (.bl true)))) (.cons (.tr (.cmp .ne (.call 11 (.cons (.fn .list (.cons (.var 1) .nil)) .nil)) (.var 0))) .nil)))) (.cons (.ret (.cst (.bl false))) .nil) .nil) [some kd, some (.ref S2.length), none, none, none, none] S3 = .ok (.nx, ρ1) S5 := by
    rw [exec, ← hρ1, t1, Res.bind_ok]
    simp [exec]
  refine (exec_cons b2).trans ?_
  refine (exec_cons (show exec (FF (n + 6)) f28_l3 ρ1 S5 = _ from e7)).trans ?_
  refine (exec_cons (exec_set e8)).trans ?_
  refine (exec_cons (show exec (FF (n + 6)) f28_l1 _ S8 = _ from e10)).trans ?_
  exact exec_cons' (exec_ret (by simp [ev]))
end K01
set_option autoImplicit true
set_option Elab.async false
set_option linter.all false
set_option maxRecDepth 100000
set_option maxHeartbeats 4000000
set_option autoImplicit false
/-! K01Y: the law's numbers are the sorted ones. -/
namespace K01
open Mi
def lts (k : Kn) (u w : V4) : Bool := HT.lexLt (rk k u) (rk k w)
theorem lexLt_dec : ∀ xs ys : List Int, HT.lexLt xs ys = decide (xs < ys)
  | [], [] => by simp [HT.lexLt_nil_nil]
  | [], y :: ys => by simp [HT.lexLt_nil_cons]
  | x :: xs, [] => by simp [HT.lexLt_cons_nil]
  | x :: xs, y :: ys => by
    rw [HT.lexLt_cons, lexLt_dec xs ys]
    by_cases h : x = y
    · simp [h, List.cons_lt_cons_iff]
    · simp [h, List.cons_lt_cons_iff]
theorem lts_irr (k : Kn) (u : V4) : lts k u u = false := by
  rw [lts, lexLt_dec]; simp [List.lt_irrefl]
theorem lts_asym {k : Kn} {u w : V4} (h : lts k u w = true) : lts k w u = false := by
  rw [lts, lexLt_dec] at *
  have h := of_decide_eq_true h
  exact decide_eq_false fun h' => List.lt_irrefl _ (List.lt_trans h h')
theorem lts_trans {k : Kn} {u v w : V4} (h : lts k u v = true) (h' : lts k v w = true) : lts k u w = true := by
  rw [lts, lexLt_dec] at *
  exact decide_eq_true (List.lt_trans (of_decide_eq_true h) (of_decide_eq_true h'))
theorem rk_m {k : Kn} {u w : V4} (h : rk k u = rk k w) : u.m = w.m := by
  have := congrArg List.getLast? h
  simpa [rk] using this
theorem lts_tot {k : Kn} {u w : V4} (h : u.m ≠ w.m) : lts k u w = true ∨ lts k w u = true := by
  rw [lts, lts, lexLt_dec, lexLt_dec]
  by_cases h1 : rk k u < rk k w
  · exact .inl (decide_eq_true h1)
  · by_cases h2 : rk k w < rk k u
    · exact .inr (decide_eq_true h2)
    · exact absurd (rk_m (List.le_antisymm (List.not_lt.mp h2) (List.not_lt.mp h1))) h
def Srt (k : Kn) (l : List V4) : Prop := l.Pairwise fun u w => lts k u w = true
/-- in a sorted list, who has j ahead -/
theorem srt_filter {k : Kn} : ∀ {l : List V4}, Srt k l → ∀ {j : Nat} {w : V4}, l[j]? = some w → l.filter (fun w => (l.filter fun u => lts k u w).length == j) = [w]
  | [], _, j, w, h => by simp at h
  | a :: t, hs, j, w, h => by
    obtain ⟨h1, h2⟩ := List.pairwise_cons.mp hs
    have ha : (a :: t).filter (fun u => lts k u a) = [] := by
      rw [List.filter_eq_nil_iff]
      intro u hu
      rcases List.mem_cons.mp hu with rfl | hu
      · rw [lts_irr]; decide
      · rw [lts_asym (h1 u hu)]; decide
    have ht : ∀ w ∈ t, ((a :: t).filter fun u => lts k u w).length = (t.filter fun u => lts k u w).length + 1 := fun w hw => by
      rw [List.filter_cons, if_pos (h1 w hw), List.length_cons]
    cases j with
    | zero =>
      have : w = a := by simpa using h.symm
      subst this
      rw [List.filter_cons, ha]
      simp only [List.length_nil, beq_self_eq_true, if_true]
      congr 1
      rw [List.filter_eq_nil_iff]
      intro u hu
      rw [ht u hu]
      simp
    | succ j =>
      have h : t[j]? = some w := by simpa using h
      rw [List.filter_cons, ha]
      have : (([] : List V4).length == j + 1) = false := by simp
      rw [this, if_neg (by decide)]
      rw [← srt_filter h2 h]
      refine List.filter_congr fun u hu => ?_
      rw [ht u hu]
      rw [Bool.eq_iff_iff]; simp
theorem srt_uniq {k : Kn} {l l' : List V4} (h : Srt k l) (h' : Srt k l') (p : l.Perm l') : l = l' :=
  List.Perm.eq_of_pairwise (le := fun u w => lts k u w = true) (fun a b _ _ h1 h2 => by rw [lts_asym h1] at h2; cases h2) h h' p
def sle (k : Kn) (a b : V4) : Bool := !lts k b a
def srt (k : Kn) (vs : List V4) : List V4 := vs.mergeSort (sle k)
theorem srt_perm (k : Kn) (vs : List V4) : (srt k vs).Perm vs := List.mergeSort_perm _ _
theorem srt_nd {k : Kn} {vs : List V4} (hn : (vs.map (·.m)).Nodup) : ((srt k vs).map (·.m)).Nodup := ((srt_perm k vs).map _).nodup_iff.mpr hn
theorem srt_srt {k : Kn} {vs : List V4} (hn : (vs.map (·.m)).Nodup) : Srt k (srt k vs) := by
  have h1 : (srt k vs).Pairwise fun a b => sle k a b = true := by
    refine List.pairwise_mergeSort (le := sle k) (fun a b c h h' => ?_) (fun a b => ?_) vs
    · have e : ∀ u w, lts k u w = decide (rk k u < rk k w) := fun u w => lexLt_dec _ _
      simp only [sle, Bool.not_eq_true'] at *
      by_cases hc : lts k c a = true
      · rw [e] at h h' hc
        exfalso
        have h := of_decide_eq_false h
        have h' := of_decide_eq_false h'
        have hc := of_decide_eq_true hc
        exact List.not_lt.mpr (List.le_trans (List.not_lt.mp h) (List.not_lt.mp h')) hc
      · simpa using hc
    · simp only [sle]
      cases h1 : lts k b a with
      | false => rfl
      | true => rw [lts_asym h1]; rfl
  have h2 : (srt k vs).Pairwise fun a b => a.m ≠ b.m := List.pairwise_map.mp (srt_nd (k := k) hn)
  refine (h1.and h2).imp fun {a b} h => ?_
  rcases lts_tot (k := k) h.2 with h3 | h3
  · exact h3
  · have := h.1; rw [sle, h3] at this; cases this
theorem nodup_inj {vs : List V4} (hn : (vs.map (·.m)).Nodup) {u w : V4} (hu : u ∈ vs) (hw : w ∈ vs) (h : u.m = w.m) : u = w := by
  obtain ⟨i, hi⟩ := List.mem_iff_getElem?.mp hu
  obtain ⟨j, hj⟩ := List.mem_iff_getElem?.mp hw
  have li := (List.getElem?_eq_some_iff.mp hi).1
  have : i = j := by
    refine (List.getElem?_inj (l := vs.map (·.m)) (by rw [List.length_map]; exact li) hn).mp ?_
    rw [List.getElem?_map, List.getElem?_map, hi, hj, Option.map_some, Option.map_some, h]
  subst this
  exact Option.some.inj (hi.symm.trans hj)
theorem bef_lts {k : Kn} {vs : List V4} (hn : (vs.map (·.m)).Nodup) {u w : V4} (hu : u ∈ vs) (hw : w ∈ vs) : bef k u w = lts k u w := by
  unfold bef
  by_cases h : u.m = w.m
  · have := nodup_inj hn hu hw h
    subst this
    rw [lts_irr]; simp
  · have : (u.m != w.m) = true := by simpa using h
    rw [this, Bool.true_and]; rfl
theorem cnt_srt {k : Kn} {vs : List V4} (hn : (vs.map (·.m)).Nodup) {w : V4} (hw : w ∈ vs) : cnt k vs w = ((srt k vs).filter fun u => lts k u w).length := by
  rw [cnt, List.filter_congr fun u hu => bef_lts hn hu hw]
  exact ((srt_perm k vs).symm.filter _).length_eq
theorem at_srt {k : Kn} {vs : List V4} (hn : (vs.map (·.m)).Nodup) {j : Nat} {w : V4} (h : (srt k vs)[j]? = some w) : atRank k vs vs (j : Int) = [w.m] := by
  have hp : ((vs.filter fun w => (cnt k vs w : Int) == (j : Int))).Perm [w] := by
    rw [← srt_filter (srt_srt hn) h]
    have e : ∀ u ∈ vs, ((cnt k vs u : Int) == (j : Int)) = (((srt k vs).filter fun v => lts k v u).length == j) := fun u hu => by
      rw [cnt_srt hn hu, Bool.eq_iff_iff]; simp only [beq_iff_eq]; omega
    rw [List.filter_congr e]
    exact (srt_perm k vs).symm.filter _
  rw [atRank, List.perm_singleton.mp hp]
  rfl
theorem told_take {k : Kn} {vs : List V4} (hn : (vs.map (·.m)).Nodup) : ∀ {i : Nat}, i ≤ vs.length → told k vs i = ((srt k vs).take i).map (·.m)
  | 0, _ => by simp [told]
  | i + 1, h => by
    have hl : i < (srt k vs).length := by rw [(srt_perm k vs).length_eq]; omega
    rw [told_succ, told_take hn (by omega), at_srt hn (List.getElem?_eq_getElem hl), List.take_succ, List.getElem?_eq_getElem hl, List.map_append]
    rfl
theorem told_eq {k : Kn} {vs : List V4} (hn : (vs.map (·.m)).Nodup) : told k vs vs.length = (srt k vs).map (·.m) := by
  rw [told_take hn (Nat.le_refl _), List.take_of_length_le (by rw [(srt_perm k vs).length_eq]; exact Nat.le_refl _)]
/-! ### shifts, other protocols, other sequences -/
theorem srt_of_perm {k : Kn} {vs us : List V4} (hn : (vs.map (·.m)).Nodup) (p : us.Perm vs) : srt k us = srt k vs :=
  srt_uniq (k := k) (srt_srt ((p.map _).nodup_iff.mpr hn)) (srt_srt hn) ((srt_perm k us).trans (p.trans (srt_perm k vs).symm))
def mv (s : Int) (v : V4) : V4 := ⟨v.a, v.b + s, v.c, v.m⟩
theorem lexLt_shift (s : List Int) : ∀ (fs : List Fm) (u w : V4) (t : Int) , HT.lexLt (fs.map (fun f => wor f (mv t u)) ++ [u.m]) (fs.map (fun f => wor f (mv t w)) ++ [w.m]) = HT.lexLt (fs.map (fun f => wor f u) ++ [u.m]) (fs.map (fun f => wor f w) ++ [w.m])
  | [], _, _, _ => rfl
  | f :: fs, u, w, t => by
    have e : ∀ v, wor f (mv t v) = wor f v + f.2.1 * t := fun v => by simp only [wor, mv, Int.mul_add]; omega
    show HT.lexLt (wor f (mv t u) :: _) (wor f (mv t w) :: _) = HT.lexLt (wor f u :: _) (wor f w :: _)
    rw [HT.lexLt_cons, HT.lexLt_cons, e, e]
    have := lexLt_shift s fs u w t
    by_cases h : wor f u = wor f w
    · rw [if_pos h, if_pos (by rw [h])]; exact this
    · rw [if_neg h, if_neg (by omega)]
      congr 1
      rw [eq_iff_iff]; omega
theorem lts_mv (k : Kn) (t : Int) (u w : V4) : lts k (mv t u) (mv t w) = lts k u w := lexLt_shift [] k.fs u w t
theorem lts_fs {k k' : Kn} (h : k'.fs = k.fs) (u w : V4) : lts k' u w = lts k u w := by unfold lts rk; rw [h]
theorem srt_mv {k k' : Kn} (h : k'.fs = k.fs) (t : Int) (vs : List V4) : srt k' (vs.map (mv t)) = (srt k vs).map (mv t) := by
  unfold srt
  refine (List.map_mergeSort (r := sle k) (s := sle k') fun a _ b _ => ?_).symm
  rw [sle, sle, lts_fs h, lts_mv]
end K01
set_option autoImplicit true
set_option Elab.async false
set_option linter.all false
set_option maxRecDepth 100000
set_option maxHeartbeats 4000000
set_option autoImplicit false
/-! K01Z: in_order. -/
namespace K01
open Mi
theorem pys_map : ∀ ds : List D, pys ds = ds.map py
  | [] => rfl
  | d :: ds => by rw [pys, pys_map ds]; rfl
def rkD (k : Kn) (v : V4) : D := .tup ((rk k v).map D.int)
theorem py_rk (k : Kn) (v : V4) : py (rkD k v) = .tuple ((rk k v).map PySem.PyData.int) := by
  rw [rkD, py, pys_map, List.map_map]; rfl
theorem rk_len (k : Kn) (v : V4) : (rk k v).length = k.fs.length + 1 := by simp [rk]
theorem sort_ranks {k : Kn} (hk : k.ok) {us : List V4} (hz : us.length ≤ 900) (S : Store) : sortR (us.map (rkD k)) S = .ok (.ref S.length) (S ++ [.lst ((srt k us).map (rkD k))]) := by
  have h1 : PySem.W.AllAlike ((us.map (rkD k)).map py) := by
    rw [List.map_map]
    refine PySem.W.AllAlike.of fun b b' => ?_
    rw [Function.comp, Function.comp, py_rk, py_rk, PySem.W.alike]
    exact PySem.W.alike_ints _ _
  have h2 : PySem.W.Sortable ((us.map (rkD k)).map py) := by
    rw [List.map_map]
    refine PySem.W.Sortable.tuples fun b => ?_
    rw [Function.comp, py_rk]
    cases h : rk k b with
    | nil => have := rk_len k b; rw [h] at this; cases this
    | cons x r => exact ⟨_, _, rfl⟩
  have h3 : (us.map (rkD k)).length ≤ PySem.sizeLine := by rw [List.length_map]; exact Nat.le_trans hz (by decide)
  have h4 : ∀ d ∈ us.map (rkD k), (py d).depth ≤ 40 := fun d hd => by
    obtain ⟨v, _, rfl⟩ := List.mem_map.mp hd
    rw [py_rk, PySem.PyData.depth, PySem.W.depth_ints]; decide
  unfold sortR
  rw [if_pos ⟨h1, h2, h3, h4⟩]
  congr 3
  refine congrArg Ob.lst ?_
  unfold srt
  refine (List.map_mergeSort fun a _ b _ => ?_).symm
  show (!lts k b a) = (!PySem.W.dataLt (py (rkD k b)) (py (rkD k a)))
  rw [py_rk, py_rk, PySem.W.dataLt_tuple]
  show _ = (!PySem.W.rowLt _ _)
  rw [PySem.W.dataLt_ints, lts, lexLt_dec]
theorem dKeys_ints : ∀ is : List Int, dKeys (is.map D.int) = some (is.map Sum.inl)
  | [] => rfl
  | i :: is => by
    show (match dKey (.int i), dKeys (is.map D.int) with | some k, some ks => some (k :: ks) | _, _ => none) = _
    rw [dKeys_ints is]; rfl
theorem nub_nodup {α : Type} [DecidableEq α] : ∀ (l acc : List α), (acc ++ l).Nodup → l.foldl (fun l y => if y ∈ l then l else l ++ [y]) acc = acc ++ l
  | [], acc, _ => by simp
  | y :: l, acc, h => by
    have hy : y ∉ acc := fun hm => by
      have := (List.nodup_append.mp h).2.2 y hm y (by simp)
      exact this rfl
    rw [List.foldl_cons, if_neg hy, nub_nodup l (acc ++ [y]) (by simpa using h)]
    simp
theorem inOrder {n : Nat} {k : Kn} (hk : k.ok) {vd : D} {us : List V4} {S : Store} (hv : seqOf S vd = some (us.map V4.d)) (hn : (us.map (·.m)).Nodup) (hz : us.length ≤ 900) :
    ∃ S', FF (n + 6) 13 [k.d, vd] S = .ok (.tup ((srt k us).map fun v => .int v.m)) S' ∧ Kp none S S' := by
  rw [FF, Mi.F_def (f := f13) rfl]
  obtain ⟨h1, h2⟩ := kern_self hk S
  have hq : isSeqD vd = true := by cases vd <;> first | rfl | cases hv
  have ho : okD S vd := fun q e => by subst e; have hv : listAt S q = _ := hv; rw [hv]; exact fun h => by cases h
  obtain ⟨kd, hkd⟩ : ∃ d, d = k.d := ⟨_, rfl⟩
  have zl : us.length ≤ PySem.sizeLine := Nat.le_trans hz (by decide)
  have e1 : ev (FF (n + 5)) (.call 5 (.cons (.var 0) (.cons (.cst (.int 1)) .nil))) [some kd, some vd, none, none] S = .ok kd S := by
    have := need (n := n) h1 h2 rfl rfl (a := .int 1)
    rw [← hkd] at this
    simp [ev, evs, this]
  have e2 : evT (FF (n + 5)) (.not (.tr (.call 1 (.cons (.var 1) .nil)))) [some kd, some vd, none, none] S = .ok false S := by
    simp [evT, ev, evs, isSeq (n := n + 4) ho, hq, truthD]
  obtain ⟨g, hg, hs⟩ := itSeq_ok (Φ := FF (n + 5)) (ρ := [some kd, some vd, none, none]) (i := 1) rfl hv
  obtain ⟨S1, hS1⟩ : ∃ S1, S1 = S ++ [Ob.lst (us.map V4.d)] := ⟨_, rfl⟩
  have e3 : ev (FF (n + 5)) f13_e4 [some kd, some vd, none, none] S = .ok (.ref S.length) S1 := by
    have := ev_lcm (Φ := FF (n + 5)) (own := [3]) (g := .nm 3) (ifs := .nil) (elt := .call 6 (.cons (.var 3) .nil)) (f := id) hg hs (by rw [List.length_map]; exact zl) (fun x hx => by
      obtain ⟨v, _, rfl⟩ := List.mem_map.mp hx
      simp [gstep, asg, evAll, ev, evs, wipeE, view (n := n + 2)])
    rw [List.map_id] at this
    rw [hS1]; exact this
  have g1 : listAt S1 S.length = some (us.map V4.d) := by rw [hS1]; simp [listAt]
  have it : ∀ x3, evIt (FF (n + 5)) (.itSeq (.var 2)) [some kd, some vd, some (.ref S.length), x3] S1 = .ok (some (S.length, us.map V4.d), us.map V4.d) S1 := fun x3 => by
    simp [evIt, ev, itemsOf, g1]
  have st : still (some (S.length, us.map V4.d)) S1 := g1
  have e4 : ev (FF (n + 5)) f13_e3 [some kd, some vd, some (.ref S.length), none] S1 = .ok (.bl false) S1 := by
    have := ev_gany (Φ := FF (n + 5)) (no := 1) (caps := []) (g := .nm 0) (ifs := .nil) (elt := .cmp .is (.var 0) (.cst .non)) (p := fun _ => false) (it none) st (fun x hx => by
      obtain ⟨v, _, rfl⟩ := List.mem_map.mp hx
      have : isD v.d .non = some false := rfl
      simp [gstep, asg, evAll, ev, cmpD, this])
    rw [show (us.map V4.d).any (fun _ => false) = false by simp] at this
    exact this
  have e5 : ev (FF (n + 5)) f13_e2 [some kd, some vd, some (.ref S.length), none] S1 = .ok (.int (us.length : Nat)) S1 := by
    have hk1 : dKeys ((us.map V4.d).map fun x => D.int (toV x).m) = some ((us.map (·.m)).map Sum.inl) := by
      rw [← dKeys_ints, List.map_map, List.map_map]; rfl
    have := ev_lenm (Φ := FF (n + 5)) (own := [3]) (g := .nm 3) (ifs := .nil) (elt := .sub (.var 3) (.cst (.int 3))) (f := fun x => D.int (toV x).m) (it none) st (by rw [List.length_map]; exact zl) (fun x hx => by
      obtain ⟨v, _, rfl⟩ := List.mem_map.mp hx
      simp [gstep, asg, evAll, ev, evs, wipeE, sub3, toV_d]) hk1 (by simp; omega)
    rw [show nub ((us.map (·.m)).map (Sum.inl (β := PySem.Str))) = (us.map (·.m)).map Sum.inl from by
      have := nub_nodup ((us.map (·.m)).map (Sum.inl (β := PySem.Str))) [] (by
        rw [List.nil_append]
        exact (List.pairwise_map.mpr (hn.imp fun h e => h (Sum.inl.inj e))))
      rw [List.nil_append] at this
      exact this] at this
    rw [List.length_map, List.length_map] at this
    exact this
  have e6 : evT (FF (n + 5)) (.tr (.cmp .ne f13_e2 (.fn .len (.cons (.var 2) .nil)))) [some kd, some vd, some (.ref S.length), none] S1 = .ok false S1 := by
    have hl : fnD .len [.ref S.length] S1 = .ok (.int (us.length : Nat)) S1 := by
      simp only [fnD, g1, List.length_map]
    rw [evT, ev, e5, Res.bind_ok]
    simp [ev, evs, hl, cmpD, peq_int, truthD]
  obtain ⟨S2, hS2⟩ : ∃ S2, S2 = S1 ++ [Ob.lst ((srt k us).map (rkD k))] := ⟨_, rfl⟩
  have e7 : ev (FF (n + 5)) f13_e0 [some kd, some vd, some (.ref S.length), none] S1 = .ok (.ref S1.length) S2 := by
    have := ev_gsorted (Φ := FF (n + 5)) (no := 1) (caps := [0]) (g := .nm 0) (ifs := .nil) (elt := .call 8 (.cons (.var 1) (.cons (.var 0) .nil))) (f := fun x => rkD k (toV x)) (it none) st (by rw [List.length_map]; exact zl) (fun x hx => by
      obtain ⟨v, _, rfl⟩ := List.mem_map.mp hx
      have := rank' (n := n + 3) hk (v := v) (S := S1)
      rw [← hkd] at this
      simp [gstep, asg, evAll, ev, evs, toV_d, this, rkD])
    rw [show (us.map V4.d).map (fun x => rkD k (toV x)) = us.map (rkD k) by rw [List.map_map]; rfl, sort_ranks hk hz, ← hS2] at this
    exact this
  have g2 : listAt S2 S1.length = some ((srt k us).map (rkD k)) := by rw [hS2]; simp [listAt]
  have e8 : ev (FF (n + 5)) f13_e1 [some kd, some vd, some (.ref S.length), none] S1 = .ok (.tup ((srt k us).map fun v => .int v.m)) S2 := by
    have hit : evIt (FF (n + 5)) (.itSeq f13_e0) [some kd, some vd, some (.ref S.length), none] S1 = .ok (some (S1.length, (srt k us).map (rkD k)), (srt k us).map (rkD k)) S2 := by
      rw [evIt, e7, Res.bind_ok]
      simp [itemsOf, g2]
    have := ev_gtup (Φ := FF (n + 5)) (no := 1) (caps := []) (g := .nm 0) (ifs := .nil) (elt := .sub (.var 0) (.neg (.cst (.int 1)))) (f := fun x => match x with | .tup ds => ds.getLastD .non | _ => .non) hit g2 (by rw [List.length_map, (srt_perm k us).length_eq]; exact zl) (fun x hx => by
      obtain ⟨v, _, rfl⟩ := List.mem_map.mp hx
      have hs : subD (rkD k v) (.int (-1)) S2 = some (.int v.m) := by
        have h1 : (((rk k v).map D.int).length : Int) = (k.fs.length : Int) + 1 := by rw [List.length_map, rk_len]; rfl
        have h2 : ((rk k v).map D.int)[k.fs.length]? = some (.int v.m) := by simp [rk]
        simp only [subD, rkD, seqOf, L2.atI, L2.ixN]
        rw [if_neg (by omega)]
        rw [if_pos (by omega), Option.bind_some, h1, show (-1 + ((k.fs.length : Int) + 1)).toNat = k.fs.length by omega, h2]
      simp [gstep, asg, evAll, ev, evs, hs]
      simp [rkD, rk])
    rw [List.map_map, show ((fun x => match x with | D.tup ds => ds.getLastD .non | _ => .non) ∘ rkD k) = fun v : V4 => D.int v.m from by
      funext v; simp [rkD, rk]] at this
    exact this
  refine ⟨S2, ?_, by rw [hS2, hS1]; exact Kp.app.trans Kp.app⟩
  rw [← hkd]
  refine run_of (f := f13) (ρ' := [some kd, some vd, some (.ref S.length), none]) rfl ?_
  show exec (FF (n + 5)) f13.body [some kd, some vd, none, none] S = _
  refine (exec_cons (exec_set e1)).trans ?_
  refine (exec_cons (show _ = Res.ok (Fl.nx, [some kd, some vd, none, none]) S from by
    show exec (FF (n + 5)) (.iff _ _ _) [some kd, some vd, none, none] S = _
    rw [exec, e2, Res.bind_ok]; simp [exec])).trans ?_
  refine (exec_cons (exec_set e3)).trans ?_
  refine (exec_cons (show _ = Res.ok (Fl.nx, [some kd, some vd, some (.ref S.length), none]) S1 from by
    show exec (FF (n + 5)) (.iff (.tr f13_e3) _ _) [some kd, some vd, some (.ref S.length), none] S1 = _
    rw [exec, evT, e4, Res.bind_ok]; simp [truthD, exec])).trans ?_
  refine (exec_cons (show _ = Res.ok (Fl.nx, [some kd, some vd, some (.ref S.length), none]) S1 from by
    show exec (FF (n + 5)) (.iff (.tr (.cmp .ne f13_e2 (.fn .len (.cons (.var 2) .nil)))) _ _) [some kd, some vd, some (.ref S.length), none] S1 = _
    rw [exec, e6, Res.bind_ok]; simp [exec])).trans ?_
  exact exec_cons' (exec_ret e8)
end K01
set_option autoImplicit true
set_option Elab.async false
set_option linter.all false
set_option maxRecDepth 100000
set_option maxHeartbeats 4000000
set_option autoImplicit false
/-! K01Last: the law. -/
namespace K01
open Mi
theorem at_list {S : Store} {v i : Nat} {ds : List D} {d : D} (h : listAt S v = some ds) (hd : ds[i]? = some d) : subD (.ref v) (.int (i : Int)) S = some d := by
  have hi := (List.getElem?_eq_some_iff.mp hd).1
  simp only [subD, seqOf, h, L2.atI, L2.ixN]
  rw [if_pos (by omega), if_pos (by omega), Option.bind_some, Int.toNat_natCast, hd]
theorem peq_ints {S : Store} {is js : List Int} : peq S (.tup (is.map D.int)) (.tup (js.map D.int)) = some (decide (is = js)) := by
  have f : ∀ is : List Int, flat 1 (.tup (is.map D.int)) = true := fun is => by
    show (is.map D.int).all (flat 0) = true
    rw [List.all_eq_true]
    intro d hd
    obtain ⟨i, _, rfl⟩ := List.mem_map.mp hd
    rfl
  rw [peq_flat (f is) (f js) (by decide) (by decide)]
  congr 1
  have e : ∀ is js : List Int, PySem.PyData.eqvAll (pys (is.map D.int)) (pys (js.map D.int)) = decide (is = js) := by
    intro is
    induction is with
    | nil => intro js; cases js <;> simp [pys, PySem.PyData.eqvAll]
    | cons i is ih =>
      intro js
      cases js with
      | nil => simp [pys, PySem.PyData.eqvAll]
      | cons j js =>
        show PySem.PyData.eqvAll (.int i :: pys (is.map D.int)) (.int j :: pys (js.map D.int)) = _
        rw [PySem.PyData.eqvAll, ih js, PySem.PyData.eqv]
        by_cases h : i = j <;> simp [h]
  show PySem.PyData.eqv (.tuple (pys (is.map D.int))) (.tuple (pys (js.map D.int))) = _
  rw [PySem.PyData.eqv, e]
theorem kp_none' {S S' : Store} (h : Kp none S S') {n : Nat} {o : Ob} (e : S[n]? = some o) : S'[n]? = some o := h.get e (by simp)
theorem nd_ne {us : List V4} (hn : (us.map (·.m)).Nodup) {i j : Nat} {u w : V4} (hu : us[i]? = some u) (hw : us[j]? = some w) (h : i ≠ j) : u.m ≠ w.m := fun e => by
  have li := (List.getElem?_eq_some_iff.mp hu).1
  refine h ((List.getElem?_inj (l := us.map (·.m)) (by rw [List.length_map]; exact li) hn).mp ?_)
  rw [List.getElem?_map, List.getElem?_map, hu, hw, Option.map_some, Option.map_some, e]
theorem mv_m (t : Int) (us : List V4) : (us.map (mv t)).map (·.m) = us.map (·.m) := by rw [List.map_map]; rfl
theorem lawOk {ns : List Int} (hl : ns.length ≤ 63) : ∃ S', FF 20 29 [.ref 0] [.frz (ns.map D.int)] = .ok (.bl true) S' := by
  rw [FF, Mi.F_def (n := 19) (f := f29) rfl]
  obtain ⟨s, hs⟩ : ∃ s : D, s = .ref 0 := ⟨_, rfl⟩
  -- row, kernel
  obtain ⟨r, S1, e1, hr0, w1, k1⟩ := draws (n := 17) (s := 0) (ns := ns) (S := [.frz (ns.map D.int)]) rfl hl
  rw [← hs] at e1 ⊢
  obtain ⟨k, S2, e2, hk, w2, k2⟩ := kernel (n := 17) w1
  obtain ⟨kd, hkd⟩ : ∃ d, d = k.d := ⟨_, rfl⟩
  have q0 : ∀ S, subD kd (.int 0) S = some (frs k) := fun S => by rw [hkd]; exact kd0 k S
  have q1 : ∀ S, subD kd (.int 1) S = some (.bl k.p) := fun S => by rw [hkd]; exact kd1 k S
  have q2 : ∀ S, subD kd (.int 2) S = some (.int k.q) := fun S => by rw [hkd]; exact kd2 k S
  rw [← hkd] at e2
  obtain ⟨ko, hko⟩ : ∃ ko : Kn, ko = ⟨k.fs, !k.p, (k.q + 1) % 3⟩ := ⟨_, rfl⟩
  have hof : ko.fs = k.fs := by rw [hko]
  have hok : ko.ok := by
    rw [hko]
    exact ⟨hk.len, by show 0 ≤ (k.q + 1) % 3 ∧ (k.q + 1) % 3 ≤ 2; omega, hk.rng⟩
  -- the other kernel
  have e3 : ev (FF 19) (.tup (.cons (.sub (.var 2) (.cst (.int 0))) (.cons (.not (.sub (.var 2) (.cst (.int 1)))) (.cons (.bin .mod (.fn .int (.cons (.bin .add (.sub (.var 2) (.cst (.int 2))) (.cst (.int 1))) .nil)) (.cst (.int 3))) .nil)))) [some s, some (.ref r), some kd, none, none, none, none, none, none, none, none, none, none] S2 = .ok ko.d S2 := by
    have : binD .mod (.int (k.q + 1)) (.int 3) S2 = .ok (.int ((k.q + 1) % 3)) S2 := bin_mod S2 (by omega)
    simp [ev, evs, q0, q1, q2, truthD, bin_add, fnD, this, z3, Kn.d, hko, frs]
  -- views
  obtain ⟨m0, S3, e4, hm0, hm1, w3, k3, _⟩ := take (n := 18) (m := 5) w2 (by omega)
  obtain ⟨mm, hmm⟩ : ∃ mm : Nat, (2 + m0 : Int) = (mm : Int) ∧ 2 ≤ mm ∧ mm ≤ 6 := ⟨(2 + m0).toNat, by omega, by omega, by omega⟩
  obtain ⟨v, vs, S4, e5, hv0, g4, hnum, w4, k4⟩ := views (n := 17) w3 (m := mm) hmm.2.2
  have hn : (vs.map (·.m)).Nodup := by
    rw [hnum]
    exact List.Sublist.nodup (List.take_sublist _ _) (by decide)
  have hvl : vs.length = mm := by
    have := congrArg List.length hnum
    rw [List.length_map, List.length_take] at this
    have : nums.length = 6 := rfl
    omega
  obtain ⟨t1, S5, e6, _, _, w5, k5, _⟩ := take (n := 18) (m := 1000) w4 (by omega)
  obtain ⟨t2, S6, e7, _, _, w6, k6, _⟩ := take (n := 18) (m := 1000) w5 (by omega)
  have hrv : r ≠ v := by
    have : r < S3.length := by obtain ⟨is, e, _⟩ := w3; exact (List.getElem?_eq_some_iff.mp e).1
    omega
  have g6 : S6[v]? = some (.lst (vs.map V4.d)) := (k5.trans k6).get g4 (by simp; exact fun h => hrv h.symm)
  have l6 : listAt S6 v = some (vs.map V4.d) := by simp [listAt, g6]
  obtain ⟨t, ht⟩ : ∃ t : Int, t = t1 - t2 := ⟨_, rfl⟩
  obtain ⟨us, hus⟩ : ∃ us : List V4, us = vs.map (mv t) := ⟨_, rfl⟩
  have hnu : (us.map (·.m)).Nodup := by rw [hus, mv_m]; exact hn
  have hul : us.length = mm := by rw [hus, List.length_map, hvl]
  obtain ⟨S7, hS7⟩ : ∃ S7, S7 = S6 ++ [Ob.lst (us.map V4.d)] := ⟨_, rfl⟩
  have zl : vs.length ≤ PySem.sizeLine := by have : (6 : Nat) ≤ PySem.sizeLine := by decide
                                             omega
  have e8 : ev (FF 19) f29_e6 [some s, some (.ref r), some kd, some ko.d, some (.ref v), some (.int t), none, none, none, none, none, none, none] S6 = .ok (.ref S6.length) S7 := by
    obtain ⟨g, hg, hst⟩ := itSeq_ok (Φ := FF 19) (ρ := [some s, some (.ref r), some kd, some ko.d, some (.ref v), some (.int t), none, none, none, none, none, none, none]) (i := 4) (d := .ref v) rfl l6
    have := ev_lcm (Φ := FF 19) (own := [7]) (g := .nm 7) (ifs := .nil) (elt := .tup (.cons (.sub (.var 7) (.cst (.int 0))) (.cons (.bin .add (.sub (.var 7) (.cst (.int 1))) (.var 5)) (.cons (.sub (.var 7) (.cst (.int 2))) (.cons (.sub (.var 7) (.cst (.int 3))) .nil))))) (f := fun x => V4.d (mv t (toV x))) hg hst (by rw [List.length_map]; exact zl) (fun x hx => by
      obtain ⟨u, _, rfl⟩ := List.mem_map.mp hx
      have s0 : subD u.d (.int 0) S6 = some (.int u.a) := by simp [subD, V4.d, seqOf, L2.atI, L2.ixN]
      have s1 : subD u.d (.int 1) S6 = some (.int u.b) := by simp [subD, V4.d, seqOf, L2.atI, L2.ixN]
      have s2 : subD u.d (.int 2) S6 = some (.int u.c) := by simp [subD, V4.d, seqOf, L2.atI, L2.ixN]
      rw [toV_d]
      simp [gstep, asg, evAll, ev, evs, wipeE, s0, s1, s2, sub3, bin_add, z4]
      rfl)
    rw [show (vs.map V4.d).map (fun x => V4.d (mv t (toV x))) = us.map V4.d by rw [hus, List.map_map, List.map_map]; rfl, ← hS7] at this
    exact this
  have g7 : S7[v]? = some (.lst (vs.map V4.d)) := by rw [hS7, List.getElem?_append_left (List.getElem?_eq_some_iff.mp g6).1]; exact g6
  have l7 : listAt S7 v = some (vs.map V4.d) := by simp [listAt, g7]
  have g7u : S7[S6.length]? = some (.lst (us.map V4.d)) := by rw [hS7]; simp
  have l7u : listAt S7 S6.length = some (us.map V4.d) := by simp [listAt, g7u]
  obtain ⟨ku, hku⟩ : ∃ ku : D, ku = ko.d := ⟨_, rfl⟩
  rw [← hku] at e3 e8
  -- the loop over the pairs
  have body : ∀ (i j : Nat) (x10 : Option D), i < mm → j < mm → ∃ x10', exec (FF 19) f29_l2 [some s, some (.ref r), some kd, some ku, some (.ref v), some (.int t), some (.ref S6.length), none, some (.int (i : Int)), some (.int (j : Int)), x10, none, none] S7 = .ok (.nx, [some s, some (.ref r), some kd, some ku, some (.ref v), some (.int t), some (.ref S6.length), none, some (.int (i : Int)), some (.int (j : Int)), x10', none, none]) S7 := by
    intro i j x10 hi hj
    by_cases hij : i = j
    · subst hij
      refine ⟨x10, ?_⟩
      simp [f29_l2, exec, evT, ev, cmpD, peq_int, truthD]
    · have hb : ((i : Int) == (j : Int)) = false := by rw [beq_eq_false_iff_ne]; omega
      have hvi : vs[i]? = some vs[i] := List.getElem?_eq_getElem (by omega)
      have hvj : vs[j]? = some vs[j] := List.getElem?_eq_getElem (by omega)
      obtain ⟨x, hx⟩ : ∃ x, vs[i]? = some x := ⟨_, hvi⟩
      obtain ⟨y, hy⟩ : ∃ y, vs[j]? = some y := ⟨_, hvj⟩
      have hxy := nd_ne hn hx hy hij
      have a1 : subD (.ref v) (.int (i : Int)) S7 = some x.d := at_list l7 (by rw [List.getElem?_map, hx]; rfl)
      have a2 : subD (.ref v) (.int (j : Int)) S7 = some y.d := at_list l7 (by rw [List.getElem?_map, hy]; rfl)
      have a3 : subD (.ref S6.length) (.int (i : Int)) S7 = some (mv t x).d := at_list l7u (by rw [hus, List.getElem?_map, List.getElem?_map, hx]; rfl)
      have a4 : subD (.ref S6.length) (.int (j : Int)) S7 = some (mv t y).d := at_list l7u (by rw [hus, List.getElem?_map, List.getElem?_map, hy]; rfl)
      have b1 : FF 19 22 [frs k, x.d, y.d] S7 = .ok (.bl (lts k x y)) S7 := aheadL (n := 17) hk hxy
      have b2 : FF 19 12 [kd, x.d, y.d] S7 = .ok (.bl (lts k x y)) S7 := by rw [hkd]; exact ahead (n := 13) hk hxy
      have b3 : FF 19 12 [ku, (mv t x).d, (mv t y).d] S7 = .ok (.bl (lts k x y)) S7 := by
        rw [hku, ahead (n := 13) hok (x := mv t x) (y := mv t y) hxy]
        have : lts ko (mv t x) (mv t y) = lts k x y := by rw [lts_mv, lts_fs hof]
        unfold lts at this ⊢
        rw [this]
      have b4 : FF 19 15 [.bl (lts k x y), .bl (lts k x y)] S7 = .ok (.bl true) S7 := by rw [says (n := 18)]; simp
      refine ⟨some (.bl (lts k x y)), ?_⟩
      simp [f29_l2, exec, evT, evAny, ev, evs, cmpD, peq_int, hb, truthD, q0, a1, a2, a3, a4, b1, b2, b3, b4]
  have hlen : fnD .len [.ref v] S7 = .ok (.int (mm : Nat)) S7 := by simp only [fnD, l7, List.length_map, hvl]
  have rngs : ∀ (x8 x9 x10 : Option D), evIt (FF 19) (.itRng1 (.fn .len (.cons (.var 4) .nil))) [some s, some (.ref r), some kd, some ku, some (.ref v), some (.int t), some (.ref S6.length), none, x8, x9, x10, none, none] S7 = .ok (none, (List.range mm).map fun (i : Nat) => D.int (i : Int)) S7 := fun x8 x9 x10 => it_rng1 (by simp [ev, evs, hlen]) (by omega)
  have ofR : ∀ (i : Nat) (x : D), ((List.range mm).map fun (i : Nat) => D.int (i : Int))[i]? = some x → i < mm ∧ x = .int (i : Int) := fun i x hx => by
    have hi : i < mm := by have := (List.getElem?_eq_some_iff.mp hx).1; simpa using this
    rw [List.getElem?_map, List.getElem?_range hi] at hx
    exact ⟨hi, (Option.some.inj hx).symm⟩
  obtain ⟨ρ9, S9, e9, ⟨x8, x9, x10, hρ9, hS9⟩⟩ := exec_for (Φ := FF 19) (t := .nm 8) (b := f29_l4)
    (fun i ρ S' => ∃ x8 x9 x10, ρ = [some s, some (.ref r), some kd, some ku, some (.ref v), some (.int t), some (.ref S6.length), none, x8, x9, x10, none, none] ∧ S' = S7) (rngs none none none)
    (fun i x ρ S' hx ⟨x8, x9, x10, hρ, hS'⟩ => by
      subst hρ hS'
      obtain ⟨hi, rfl⟩ := ofR i x hx
      obtain ⟨ρa, Sa, ea, ⟨y9, y10, hρa, hSa⟩⟩ := exec_for (Φ := FF 19) (t := .nm 9) (b := f29_l2)
        (fun j ρ S'' => ∃ x9 x10, ρ = [some s, some (.ref r), some kd, some ku, some (.ref v), some (.int t), some (.ref S6.length), none, some (.int (i : Int)), x9, x10, none, none] ∧ S'' = S') (rngs (some (.int (i : Int))) x9 x10)
        (fun j x ρ S'' hx ⟨x9, x10, hρ, hS''⟩ => by
          subst hρ hS''
          obtain ⟨hj, rfl⟩ := ofR j x hx
          obtain ⟨x10', hb⟩ := body i j x10 hi hj
          exact ⟨trivial, _, _, _, rfl, hb, some (.int (j : Int)), x10', rfl, rfl⟩)
        (fun _ _ _ => trivial) ⟨x9, x10, rfl, rfl⟩
      subst hρa hSa
      refine ⟨trivial, [some s, some (.ref r), some kd, some ku, some (.ref v), some (.int t), some (.ref S6.length), none, some (.int (i : Int)), x9, x10, none, none], [some s, some (.ref r), some kd, some ku, some (.ref v), some (.int t), some (.ref S6.length), none, some (.int (i : Int)), y9, y10, none, none], Sa, rfl, ?_, some (.int (i : Int)), y9, y10, rfl, rfl⟩
      have ea : exec (FF 19) f29_l3 [some s, some (.ref r), some kd, some ku, some (.ref v), some (.int t), some (.ref S6.length), none, some (.int (i : Int)), x9, x10, none, none] Sa = _ := ea
      rw [f29_l4, exec_cons ea]; rfl)
    (fun _ _ _ => trivial) ⟨none, none, none, rfl, rfl⟩
  subst hρ9 hS9
  -- numbers
  obtain ⟨S10, e10, k10⟩ := numbers (n := 15) hk g7 (by omega)
  rw [told_eq hn] at e10
  have e10 : FF 19 26 [frs k, .ref v] S9 = .ok (.tup ((srt k vs).map fun v => D.int v.m)) S10 := by rw [List.map_map] at e10; exact e10
  have g10 : S10[v]? = some (.lst (vs.map V4.d)) := kp_none' k10 g7
  have g10u : S10[S6.length]? = some (.lst (us.map V4.d)) := kp_none' k10 g7u
  obtain ⟨S11, hS11⟩ : ∃ S11, S11 = S10 ++ [Ob.lst (vs.map V4.d)] := ⟨_, rfl⟩
  obtain ⟨kp, hkp⟩ : ∃ kp, kp = S10.length := ⟨_, rfl⟩
  have g11 : S11[v]? = some (.lst (vs.map V4.d)) := by rw [hS11, List.getElem?_append_left (List.getElem?_eq_some_iff.mp g10).1]; exact g10
  have g11u : S11[S6.length]? = some (.lst (us.map V4.d)) := by rw [hS11, List.getElem?_append_left (List.getElem?_eq_some_iff.mp g10u).1]; exact g10u
  have g11k : S11[kp]? = some (.lst (vs.map V4.d)) := by rw [hS11, hkp]; simp
  have e11 : fnD .list [.ref v] S10 = .ok (.ref kp) S11 := by
    have : listAt S10 v = some (vs.map V4.d) := by simp [listAt, g10]
    simp [fnD, seqOf, this, hkp, hS11]
  -- the three orders
  obtain ⟨dn, hdn⟩ : ∃ dn : D, dn = .tup ((srt k vs).map fun v => D.int v.m) := ⟨_, rfl⟩
  rw [← hdn] at e10
  obtain ⟨S12, e12, k12⟩ := inOrder (n := 13) (S := S11) hk (vd := .ref v) (us := vs) (by simp [seqOf, listAt, g11]) hn (by omega)
  have g12u : S12[S6.length]? = some (.lst (us.map V4.d)) := kp_none' k12 g11u
  have e13 : fnD .tuple [.ref S6.length] S12 = .ok (.tup (us.map V4.d)) S12 := by
    have : listAt S12 S6.length = some (us.map V4.d) := by simp [listAt, g12u]
    simp [fnD, seqOf, this]
  obtain ⟨S14, e14, k14⟩ := inOrder (n := 13) (S := S12) hok (vd := .tup (us.map V4.d)) (us := us) rfl hnu (by omega)
  have h14 : ((srt ko us).map fun v => D.int v.m) = (srt k vs).map fun v => D.int v.m := by
    rw [hus, srt_mv hof, List.map_map]; rfl
  rw [h14] at e14
  have g14 : S14[v]? = some (.lst (vs.map V4.d)) := kp_none' (k12.trans k14) g11
  have l14 : listAt S14 v = some (vs.map V4.d) := by simp [listAt, g14]
  obtain ⟨S15, hS15⟩ : ∃ S15, S15 = S14 ++ [Ob.lst (vs.reverse.map V4.d)] := ⟨_, rfl⟩
  have e15 : ev (FF 19) (.rev (.var 4)) [some s, some (.ref r), some kd, some ku, some (.ref v), some (.int t), some (.ref S6.length), none, x8, x9, some dn, some (.ref kp), none] S14 = .ok (.ref S14.length) S15 := by
    simp [ev, l14, hS15]
  have l15 : listAt S15 S14.length = some (vs.reverse.map V4.d) := by rw [hS15]; simp [listAt]
  have hnr : (vs.reverse.map (·.m)).Nodup := ((List.reverse_perm vs).map _).nodup_iff.mpr hn
  obtain ⟨S16, e16, k16⟩ := inOrder (n := 13) (S := S15) hk (vd := .ref S14.length) (us := vs.reverse) l15 hnr (by rw [List.length_reverse]; omega)
  rw [srt_of_perm hn (List.reverse_perm vs)] at e16
  rw [← hkd, ← hdn] at e12 e16
  rw [← hku, ← hdn] at e14
  obtain ⟨S17, hS17⟩ : ∃ S17, S17 = S16 ++ [Ob.lst [dn, dn, dn]] := ⟨_, rfl⟩
  have l17 : listAt S17 S16.length = some [dn, dn, dn] := by rw [hS17]; simp [listAt]
  have k17 : Kp none S11 S17 := by
    rw [hS17]
    have a : Kp none S14 S15 := by rw [hS15]; exact Kp.app
    exact (((k12.trans k14).trans a).trans k16).trans Kp.app
  have it17 : evIt (FF 19) (.itSeq (.lst (.cons (.call 13 (.cons (.var 2) (.cons (.var 4) .nil))) (.cons (.call 13 (.cons (.var 3) (.cons (.fn .tuple (.cons (.var 6) .nil)) .nil))) (.cons (.call 13 (.cons (.var 2) (.cons (.rev (.var 4)) .nil))) .nil))))) [some s, some (.ref r), some kd, some ku, some (.ref v), some (.int t), some (.ref S6.length), none, x8, x9, some dn, some (.ref kp), none] S11 = .ok (some (S16.length, [dn, dn, dn]), [dn, dn, dn]) S17 := by
    have c1 : ev (FF 19) (.call 13 (.cons (.var 2) (.cons (.var 4) .nil))) [some s, some (.ref r), some kd, some ku, some (.ref v), some (.int t), some (.ref S6.length), none, x8, x9, some dn, some (.ref kp), none] S11 = .ok dn S12 := by
      simp [ev, evs, e12]
    have c2 : ev (FF 19) (.call 13 (.cons (.var 3) (.cons (.fn .tuple (.cons (.var 6) .nil)) .nil))) [some s, some (.ref r), some kd, some ku, some (.ref v), some (.int t), some (.ref S6.length), none, x8, x9, some dn, some (.ref kp), none] S12 = .ok dn S14 := by
      simp [ev, evs, e13, e14]
    have c3 : ev (FF 19) (.call 13 (.cons (.var 2) (.cons (.rev (.var 4)) .nil))) [some s, some (.ref r), some kd, some ku, some (.ref v), some (.int t), some (.ref S6.length), none, x8, x9, some dn, some (.ref kp), none] S14 = .ok dn S16 := by
      rw [ev, evs, ev]
      simp only [List.getElem?_cons_succ, List.getElem?_cons_zero, Res.bind_ok]
      rw [evs, e15, Res.bind_ok, evs, Res.bind_ok, Res.bind_ok, Res.bind_ok, e16]
    rw [evIt, ev, evs, c1, Res.bind_ok, evs, c2, Res.bind_ok, evs, c3, Res.bind_ok, evs, Res.bind_ok, Res.bind_ok, Res.bind_ok, Res.bind_ok]
    rw [if_pos (by simp [z3]), Res.bind_ok]
    rw [hS17] at l17 ⊢
    simp [itemsOf, l17]
  have hd0 : ∃ m0 r0, (srt k vs).map (fun v => v.m) = m0 :: r0 := by
    cases h : (srt k vs).map (fun v => v.m) with
    | nil =>
      have := congrArg List.length h
      rw [List.length_map, (srt_perm k vs).length_eq] at this
      simp only [List.length_nil] at this; omega
    | cons a b => exact ⟨a, b, rfl⟩
  obtain ⟨n0, r0, hd0⟩ := hd0
  have hdn' : dn = .tup ((n0 :: r0).map D.int) := by rw [hdn, ← hd0, List.map_map]; rfl
  have dpeq : ∀ S, peq S dn dn = some true := fun S => by rw [hdn', peq_ints]; simp
  have dsub : ∀ S, subD dn (.int 0) S = some (.int n0) := fun S => by rw [hdn']; simp [subD, seqOf, L2.atI, L2.ixN]
  have disi : ∀ S, isiD S dn .tuple = some true := fun S => by rw [hdn']; rfl
  obtain ⟨ρ18, S18, e18, ⟨x12, hρ18, hS18⟩⟩ := exec_for (Φ := FF 19) (t := .nm 12) (b := f29_l0)
    (fun i ρ S' => ∃ x12, ρ = [some s, some (.ref r), some kd, some ku, some (.ref v), some (.int t), some (.ref S6.length), none, x8, x9, some dn, some (.ref kp), x12] ∧ S' = S17) it17
    (fun i x ρ S' hx ⟨x12, hρ, hS'⟩ => by
      subst hρ hS'
      have : x = dn := by
        have := List.mem_of_getElem? hx
        simpa using this
      subst this
      refine ⟨l17, [some s, some (.ref r), some kd, some ku, some (.ref v), some (.int t), some (.ref S6.length), none, x8, x9, some x, some (.ref kp), some x], [some s, some (.ref r), some kd, some ku, some (.ref v), some (.int t), some (.ref S6.length), none, x8, x9, some x, some (.ref kp), some x], S', rfl, ?_, some x, rfl, rfl⟩
      simp [f29_l0, exec, evT, evAny, ev, evs, disi, truthD, cmpD, dpeq, dsub, isInteger (n := 18)])
    (fun ρ S' ⟨_, _, hS'⟩ => by subst hS'; exact l17) ⟨none, rfl, rfl⟩
  subst hρ18 hS18
  -- the end
  obtain ⟨S19, e19, k19⟩ := told28 (n := 12) hk (S := S18)
  rw [← hkd] at e19
  have g19 : S19[v]? = some (.lst (vs.map V4.d)) := kp_none' (k17.trans k19) g11
  have g19k : S19[kp]? = some (.lst (vs.map V4.d)) := kp_none' (k17.trans k19) g11k
  have l19 : listAt S19 v = some (vs.map V4.d) := by simp [listAt, g19]
  have l19k : listAt S19 kp = some (vs.map V4.d) := by simp [listAt, g19k]
  have p19 : peq S19 (.ref v) (.ref kp) = some true := peq_lists (k := 1) l19 l19k (fun d hd => by obtain ⟨u, _, rfl⟩ := List.mem_map.mp hd; rfl) (by decide)
  obtain ⟨S20, hS20⟩ : ∃ S20, S20 = S19 ++ [Ob.lst []] := ⟨_, rfl⟩
  have l20 : listAt S20 S19.length = some (([] : List V4).map V4.d) := by rw [hS20]; simp [listAt]
  obtain ⟨S21, e21, k21⟩ := inOrder (n := 13) (S := S20) hk (vd := .ref S19.length) (us := []) l20 (by simp) (by simp)
  rw [← hkd] at e21
  have g21 : S21[v]? = some (.lst (vs.map V4.d)) := by
    refine kp_none' k21 ?_
    rw [hS20, List.getElem?_append_left (List.getElem?_eq_some_iff.mp g19).1]; exact g19
  have l21 : listAt S21 v = some (vs.map V4.d) := by simp [listAt, g21]
  obtain ⟨u0, hu0⟩ : ∃ u0, vs[0]? = some u0 := ⟨_, List.getElem?_eq_getElem (by omega)⟩
  have hu4 : u0.m = 4 := by
    have h1 : (vs.map (·.m))[0]? = some u0.m := by rw [List.getElem?_map, hu0]; rfl
    rw [hnum, List.getElem?_take_of_lt (by omega)] at h1
    exact (Option.some.inj h1).symm
  have a21 : subD (.ref v) (.int 0) S21 = some u0.d := at_list (i := 0) l21 (by rw [List.getElem?_map, hu0]; rfl)
  obtain ⟨S22, hS22⟩ : ∃ S22, S22 = S21 ++ [Ob.lst [u0.d]] := ⟨_, rfl⟩
  have l22 : listAt S22 S21.length = some ([u0].map V4.d) := by rw [hS22]; simp [listAt]
  obtain ⟨S23, e23, k23⟩ := inOrder (n := 13) (S := S22) hk (vd := .ref S21.length) (us := [u0]) l22 (by simp) (by simp)
  rw [← hkd] at e23
  have srt0 : srt k [] = [] := by simp [srt]
  have srt1 : srt k [u0] = [u0] := by simp [srt]
  rw [srt0] at e21
  rw [srt1] at e23
  have pt0 : peq S21 (.tup []) (.tup []) = some true := by have := peq_ints (S := S21) (is := []) (js := []); simpa using this
  have pt1 : peq S23 (.tup [.int 4]) (.tup [.int 4]) = some true := by have := peq_ints (S := S23) (is := [4]) (js := [4]); simpa using this
  have eEnd : ev (FF 19) (.and (.cons (.call 28 (.cons (.var 2) .nil)) (.cons (.cmp .eq (.var 4) (.var 11)) (.cons (.cmp .eq (.call 13 (.cons (.var 2) (.cons (.lst .nil) .nil))) (.tup .nil)) (.cons (.cmp .eq (.call 13 (.cons (.var 2) (.cons (.lst (.cons (.sub (.var 4) (.cst (.int 0))) .nil)) .nil))) (.tup (.cons (.cst (.int 4)) .nil))) .nil))))) [some s, some (.ref r), some kd, some ku, some (.ref v), some (.int t), some (.ref S6.length), none, x8, x9, some dn, some (.ref kp), x12] S18 = .ok (.bl true) S23 := by
    have c3 : ev (FF 19) (.cmp .eq (.call 13 (.cons (.var 2) (.cons (.lst .nil) .nil))) (.tup .nil)) [some s, some (.ref r), some kd, some ku, some (.ref v), some (.int t), some (.ref S6.length), none, x8, x9, some dn, some (.ref kp), x12] S19 = .ok (.bl true) S21 := by
      rw [hS20] at e21
      simp [ev, evs, e21, cmpD, pt0]
    have c4 : ev (FF 19) (.cmp .eq (.call 13 (.cons (.var 2) (.cons (.lst (.cons (.sub (.var 4) (.cst (.int 0))) .nil)) .nil))) (.tup (.cons (.cst (.int 4)) .nil))) [some s, some (.ref r), some kd, some ku, some (.ref v), some (.int t), some (.ref S6.length), none, x8, x9, some dn, some (.ref kp), x12] S21 = .ok (.bl true) S23 := by
      rw [hS22] at e23
      rw [show (List.map (fun v : V4 => D.int v.m) [u0]) = [.int 4] by simp [hu4]] at e23
      simp [ev, evs, a21, z1, e23, cmpD, pt1]
    have c1 : ev (FF 19) (.call 28 (.cons (.var 2) .nil)) [some s, some (.ref r), some kd, some ku, some (.ref v), some (.int t), some (.ref S6.length), none, x8, x9, some dn, some (.ref kp), x12] S18 = .ok (.bl true) S19 := by
      simp [ev, evs, e19]
    have c2 : ev (FF 19) (.cmp .eq (.var 4) (.var 11)) [some s, some (.ref r), some kd, some ku, some (.ref v), some (.int t), some (.ref S6.length), none, x8, x9, some dn, some (.ref kp), x12] S19 = .ok (.bl true) S19 := by
      simp [ev, cmpD, p19]
    rw [ev, evAnd, c1, Res.bind_ok]
    show evAnd (FF 19) _ _ S19 = _
    rw [evAnd, c2, Res.bind_ok]
    show evAnd (FF 19) _ _ S19 = _
    rw [evAnd, c3, Res.bind_ok]
    show evAnd (FF 19) _ _ S21 = _
    rw [evAnd, c4]
    all_goals (intro h; cases h)
  refine ⟨S23, ?_⟩
  refine run_of (f := f29) (ρ' := [some s, some (.ref r), some kd, some ku, some (.ref v), some (.int t), some (.ref S6.length), none, x8, x9, some dn, some (.ref kp), x12]) rfl ?_
  show exec (FF 19) f29.body [some s, none, none, none, none, none, none, none, none, none, none, none, none] _ = _
  refine (exec_cons (exec_set (d := .ref r) (S' := S1) (by simp [ev, evs, e1]))).trans ?_
  refine (exec_cons (exec_set (d := kd) (S' := S2) (by simp [ev, evs, e2]))).trans ?_
  refine (exec_cons (exec_set e3)).trans ?_
  refine (exec_cons (exec_set (d := .ref v) (S' := S4) (by simp [ev, evs, e4, bin_add, hmm.1, e5]))).trans ?_
  refine (exec_cons (exec_set (d := .int t) (S' := S6) (by simp [ev, evs, e6, e7, bin_sub, ht]))).trans ?_
  refine (exec_cons (exec_set e8)).trans ?_
  refine (exec_cons (show exec (FF 19) f29_l5 _ S9 = _ from e9)).trans ?_
  refine (exec_cons (exec_set (d := dn) (S' := S10) (by simp [ev, evs, q0, e10]))).trans ?_
  refine (exec_cons (exec_set (d := .ref kp) (S' := S11) (by simp [ev, evs, e11]))).trans ?_
  refine (exec_cons (show exec (FF 19) f29_l1 _ S11 = _ from e18)).trans ?_
  exact exec_cons' (exec_ret eEnd)
end K01
set_option autoImplicit true
set_option Elab.async false
set_option linter.all false
set_option maxRecDepth 100000
set_option maxHeartbeats 0
/-! K01E: the end. -/
namespace K01
open PySem PySem.Spec PyProof.Rows L2
theorem kwOk : Mi.KwOk nms dds := by
  intro i x k ks d h1 h2
  have hi : i < 30 := by have := (List.getElem?_eq_some_iff.mp h1).1; exact this
  have key : ∀ j : Fin 30, j.val ≠ 14 → (nms[j.val]?.map (·.2)) = some [] := by decide +kernel
  by_cases h : i = 14
  · subst h
    have e1 : nms[14]? = some (("named" : Str), [("preempts" : Str), ("protocol" : Str)]) := rfl
    rw [e1] at h1
    cases h1
    have e2 : dds[14]? = some (ddOf (tops.getD 14 0) (Ns.getD 14 []) (Ps.getD 14 [])) := by rfl
    rw [e2] at h2
    cases h2
    refine ⟨rfl, fun kV doc pm an cdv ct us ws l1 l2 => ?_⟩
    match us, ws, l1, l2 with
    | [u], [a, b], _, _ => rfl
  · have := key ⟨i, hi⟩ h
    rw [h1] at this
    cases this
def depth : Nat := 20
theorem plain (ns : List Int) (h : ns.length ≤ 63) (hb : ∀ z ∈ ns, Builtin.Int.intBits z ≤ 1048576) : ∃ S', Mi.F tab (gs.map (·.2)) depth 29 [.ref 0] [.frz (ns.map Mi.D.int)] = .ok (.bl true) S' := lawOk h
end K01
open PySem PySem.W PySem.Calls PyProof.Rows
theorem PySem.Challenge.cw_tickhold_k01_one_order_holds : PySem.Challenge.rw_tickhold_k01_one_order.Holds := by
  w_on; o_law
  refine HandSHeadRun.head_any (r := OpenLaw.row PySem.Challenge.rw_tickhold_k01_one_order) (q := view (OpenLaw.row PySem.Challenge.rw_tickhold_k01_one_order).prog [K01.lawTop]) (H := K01.hk) (ob := K01.ob) (M := 4000) (loose := K01.loose) (d := HandSHeadRun.topDef (OpenLaw.row PySem.Challenge.rw_tickhold_k01_one_order).prog K01.lawTop) (kwd := []) K01.ob_eq
    (by kernel_rfl) (fun s => by kernel_rfl) K01.run (by kernel_rfl) (by kernel_rfl) (by kernel_rfl) (by rfl) (by first | assumption | decide +kernel) (by decide +kernel) ⟨rfl, rfl, rfl, rfl, rfl, by decide +kernel⟩ ?hw ?hc
  case hw => w_witness2
  case hc =>
    refine LamX.walk_ofTsE (l := PySem.Challenge.rw_tickhold_k01_one_order) (n := 63) (k := 9 * K01.depth) (x := "script") (CX := fun w => L2.CX (PySem.Challenge.rw_tickhold_k01_one_order).prog w) rfl (by decide) (by kernel_rfl) ⟨rfl, by decide, by decide⟩ ?F (fun w H s e s' h => Mi.cx_false h)
    intro w mg fa h Y G hmg0
    obtain ⟨K, KX, c⟩ := Y
    have hmg : mg ("law" : PySem.Str) = some (.ref fa) := by
      have e : (HandSHeadRun.topDef (OpenLaw.row PySem.Challenge.rw_tickhold_k01_one_order).prog K01.lawTop).name = ("law" : PySem.Str) := by kernel_rfl
      rw [← e]
      exact hmg0
    exact ⟨K, KX, Mi.mini_at (gs := K01.gs) (cls := fun _ => 0) (iL := 29) (dL := K01.dds.getD 29 ⟨⟨[], [], none, [], [], none, []⟩, [], ⟨.function, [], false, false, []⟩, [], []⟩) (fL := K01.f29) K01.allOk K01.kwOk rfl rfl K01.kws c KX G hmg rfl rfl (by decide +kernel) rfl rfl K01.plain⟩
