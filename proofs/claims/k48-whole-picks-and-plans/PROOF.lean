import PyProof.Rows.All
import Wide.All
import OpenK.AllK
import Wide.FinOn
import HandS.ForMost
import HandS.ForExc
import HandS.TupAny
import HandS.TupMul
import HandS.IsInst
import HandS.Zip
import HandS.Deep
import HandS.NoneIn
import HandS.Style
import HandS.Flow
import HandS.ExcSuper
import HandS.ExcInit
import HandS.TryMany
import HandS.Lambda
import PyProof.P3Statements
import KE.KExcSuper
import HandS.Nested
import KE.KStateDown
import HandS.Head0
import HandS.Head1
import HandS.Head2
import HandS.HeadEnd
import HandS.HeadHook1
import HandS.HeadHook2
import HandS.HeadHook3
import HandS.HeadHook4
import HandS.HeadWalk
import HandS.ExcIs
import HandS.ExcField
import HandS.ExcCtx
import KE.GoesMore
import KE.GoesRaise
import HandS.WordsExc
import HandS.ExcOwn
import HandS.HotCalls
import HandS.SuiteRaise
import KE.KExcIs
import HandS.ExcInitHot
import HandS.TupLe
import HandS.DictTup
import HandS.TupSets
import HandS.DictComp
import HandS.Iter
import HandS.More
import KE.SortData
import KE.LtData
import KE.KDictPairs
import HandS.Evl
import PySem.Challenge.RW_nestkinds_k48_whole_picks_and_plans
section
set_option Elab.async false
set_option linter.all false
/-! plain values, the small language, its evaluator -/
namespace Nk
inductive Tag where
  | do_ | row | if_ | ours | theirs | times | again | end_
  | mark | about | drop | open_ | wrap | double | turn | only | left | right
  | may | game | told | kind | nesting | program | place | picks | way | number | text | unlike | many | other
  deriving DecidableEq, Repr
inductive D where
  | non | bl (b : Bool) | int (i : Int) | str (t : Tag) | tup (l : List D) | lst (l : List D) | src
  deriving Repr

structure Sr where
  c : Int
  n : Int
  deriving Repr
/-- exceptions: by class; TooMany with its limit -/
inductive Xc where
  | nesting | kind | program | unlike | many (lim : Int)
  deriving DecidableEq, Repr
inductive R (α : Type) where
  | ok (a : α) (s : Sr) | err (x : Xc) (s : Sr) | stuck
def M (α : Type) := Sr → R α
def ret {α : Type} (a : α) : M α := fun s => .ok a s
def bnd {α β : Type} (m : M α) (f : α → M β) : M β := fun s => match m s with
  | .ok a s' => f a s'
  | .err x s' => .err x s'
  | .stuck => .stuck
def stk {α : Type} : M α := fun _ => .stuck
def thr {α : Type} (x : Xc) : M α := fun s => .err x s
def ofO {α : Type} : Option α → M α
  | some a => ret a
  | none => stk

mutual
def eqv : D → D → Bool
  | .non, .non => true
  | .bl a, .bl b => a == b
  | .bl a, .int j => (if a then 1 else 0) == j
  | .int i, .bl b => i == (if b then 1 else 0)
  | .int i, .int j => i == j
  | .str x, .str y => decide (x = y)
  | .lst xs, .lst ys => eqvs xs ys
  | .tup xs, .tup ys => eqvs xs ys
  | _, _ => false
def eqvs : List D → List D → Bool
  | [], [] => true
  | x :: xs, y :: ys => eqv x y && eqvs xs ys
  | _, _ => false
end
mutual
def dep : D → Nat
  | .lst xs => deps xs + 1
  | .tup xs => deps xs + 1
  | _ => 0
def deps : List D → Nat
  | [] => 0
  | x :: xs => max (dep x) (deps xs)
end
mutual
def nosrc : D → Bool
  | .lst xs => nosrcs xs
  | .tup xs => nosrcs xs
  | .src => false
  | _ => true
def nosrcs : List D → Bool
  | [] => true
  | x :: xs => nosrc x && nosrcs xs
end
def eqO (a b : D) : Option Bool := if nosrc a && nosrc b && decide (min (dep a) (dep b) ≤ 64) then some (eqv a b) else none

/-! ### what operations do -/
inductive O2 where
  | add | sub | mul | mod | fdiv
  | eq | ne | lt | le | gt | ge | isin | notin
  | ix
  deriving DecidableEq, Repr
inductive O1 where
  | len | sum | all | max | tuple | list | int | neg | isnone | notnone | rev
  | isint | isbool | istup | isstr
  deriving DecidableEq, Repr
def intsD : List D → Option (List Int)
  | [] => some []
  | .int i :: r => (intsD r).map (i :: ·)
  | _ :: _ => none
def blsD : List D → Option (List Bool)
  | [] => some []
  | .bl i :: r => (blsD r).map (i :: ·)
  | _ :: _ => none
def strsD : List D → Option (List Tag)
  | [] => some []
  | .str i :: r => (strsD r).map (i :: ·)
  | _ :: _ => none
def maxi : Int → List Int → Int
  | m, [] => m
  | m, x :: r => maxi (if x > m then x else m) r
def place (n : Nat) (i : Int) : Option Nat := if 0 ≤ i then (if i < n then some i.toNat else none) else if -(n : Int) ≤ i then some (i + n).toNat else none
def line : Nat := 100000
def small (i : Int) : Bool := decide (-(2 ^ 62) ≤ i) && decide (i < 2 ^ 62)
/-- the limits that are told -/
def okLim (i : Int) : Bool := decide (i = 8) || decide (i = 1000) || decide (i = 5000)
def inO : D → D → Option Bool
  | .int i, .tup ds => (intsD ds).map fun l => l.contains i
  | .str x, .tup ds => (strsD ds).map fun l => l.contains x
  | d, .lst ds => if nosrc d && nosrcs ds && decide (dep d ≤ 64) && decide (deps ds + 1 ≤ 64) then some (ds.any fun z => eqv z d) else none
  | _, _ => none
def rep (n : Nat) (xs : List D) : List D := (List.replicate n xs).flatten
def op2 : O2 → D → D → Option D
  | .add, .int i, .int j => some (.int (i + j))
  | .add, .tup a, .tup b => if a.length + b.length ≤ line then some (.tup (a ++ b)) else none
  | .add, .lst a, .lst b => if a.length + b.length ≤ line then some (.lst (a ++ b)) else none
  | .sub, .int i, .int j => some (.int (i - j))
  | .mul, .int i, .int j => if small j then some (.int (i * j)) else none
  | .mul, .tup a, .int k => if a ≠ [] ∧ 0 ≤ k ∧ k ≤ 100 ∧ a.length ≤ 100 then some (.tup (rep k.toNat a)) else none
  | .mod, .int i, .int j => if 0 < j ∧ j < 1073741824 then some (.int (i % j)) else none
  | .fdiv, .int i, .int j => if 0 < j ∧ j < 1073741824 then some (.int (i / j)) else none
  | .eq, a, b => (eqO a b).map .bl
  | .ne, a, b => (eqO a b).map fun x => .bl (!x)
  | .lt, .int i, .int j => some (.bl (decide (i < j)))
  | .le, .int i, .int j => some (.bl (decide (i ≤ j)))
  | .gt, .int i, .int j => some (.bl (decide (j < i)))
  | .ge, .int i, .int j => some (.bl (decide (j ≤ i)))
  | .isin, a, b => (inO a b).map .bl
  | .notin, a, b => (inO a b).map fun x => .bl (!x)
  | .ix, .tup a, .int i => (place a.length i).bind (a[·]?)
  | .ix, .lst a, .int i => (place a.length i).bind (a[·]?)
  | _, _, _ => none
def isN : D → Bool
  | .non => true
  | _ => false
def op1 : O1 → D → Option D
  | .len, .tup a => some (.int a.length)
  | .len, .lst a => some (.int a.length)
  | .sum, .lst a => (intsD a).map fun l => .int l.sum
  | .all, .lst a => (blsD a).map fun l => .bl (l.all id)
  | .max, .lst a => match intsD a with
    | some (x :: r) => some (.int (maxi x r))
    | _ => none
  | .tuple, .lst a => some (.tup a)
  | .tuple, .tup a => some (.tup a)
  | .list, .tup a => some (.lst a)
  | .list, .lst a => some (.lst a)
  | .int, .int i => some (.int i)
  | .neg, .int i => some (.int (-i))
  | .isnone, d => some (.bl (isN d))
  | .notnone, d => some (.bl (!isN d))
  | .rev, .tup a => some (.tup a.reverse)
  | .isint, d => match d with | .int _ => some (.bl true) | .bl _ => some (.bl true) | .src => none | _ => some (.bl false)
  | .isbool, d => match d with | .bl _ => some (.bl true) | .src => none | _ => some (.bl false)
  | .istup, d => match d with | .tup _ => some (.bl true) | .src => none | _ => some (.bl false)
  | .isstr, d => match d with | .str _ => some (.bl true) | .src => none | _ => some (.bl false)
  | _, _ => none
/-- t[lo:hi] by places -/
def clip (n d : Nat) : Option Int → Nat
  | none => d
  | some v => if v < 0 then (v + n).toNat else min v.toNat n
def cut (xs : List D) (lo hi : Option Int) : List D := (xs.drop (clip xs.length 0 lo)).take (clip xs.length xs.length hi - clip xs.length 0 lo)
def sliceO : D → Option Int → Option Int → Option D
  | .tup a, lo, hi => some (.tup (cut a lo hi))
  | .lst a, lo, hi => some (.lst (cut a lo hi))
  | _, _, _ => none

/-! ### the language -/
inductive Tg where
  | nm (i : Nat) | tup (is : List Nat)
  deriving DecidableEq, Repr
mutual
inductive E where
  | cst (d : D) | var (i : Nat) | tupOwn (i : Nat)
  | o1 (o : O1) (a : E) | o2 (o : O2) (a b : E)
  | slice (a : E) (lo hi : Eo)
  | tup (es : Es) | lst (es : Es)
  | and (a b : E) | or (a b : E) | not (a : E) | ite (c a b : E)
  | chain (o p : O2) (a b c : E)
  | call (f : Nat) (es : Es)
  | comp (elt : E) (tg : Tg) (it : It) (ifs : Es) (own : List Nat)
  | ans (b : E)
inductive Es where
  | nil | cons (e : E) (es : Es)
inductive Eo where
  | none | some (e : E)
inductive It where
  | seq (e : E) | range (e : E) | enum (e : E) | zip (a b : E)
end
mutual
inductive S where
  | asg (i : Nat) (e : E) | asgT (is : List Nat) (e : E) | par (is : List Nat) (es : Es)
  | new (i : Nat) | app (i : Nat) (e : E)
  | exp (e : E) | rtn (e : E)
  | ite (c : E) (a b : Ss) | for_ (tg : Tg) (it : It) (b : Ss) | whl (c : E) (b : Ss)
  | raise (x : Xc) | raiseM (e : E)
inductive Ss where
  | nil | cons (s : S) (ss : Ss)
end
abbrev Env := List (Option D)
inductive Fl where
  | nx (ρ : Env) | rt (d : D)
def truth : D → M Bool
  | .bl b => ret b
  | _ => stk
def setAll : List Nat → List D → Env → Option Env
  | [], [], ρ => some ρ
  | i :: is, d :: ds, ρ => if i < ρ.length then setAll is ds (ρ.set i (some d)) else none
  | _, _, _ => none
def asgTg : Tg → D → Env → Option Env
  | .nm i, d, ρ => if i < ρ.length then some (ρ.set i (some d)) else none
  | .tup is, .tup ds, ρ => setAll is ds ρ
  | .tup is, .lst ds, ρ => setAll is ds ρ
  | _, _, _ => none
def wipeE (ρ : Env) : List Nat → Env
  | [] => ρ
  | v :: vs => (wipeE ρ vs).set v none
def enumD : Nat → List D → List D
  | _, [] => []
  | n, d :: r => .tup [.int n, d] :: enumD (n + 1) r
def zipD : List D → List D → List D
  | a :: r, b :: s => .tup [a, b] :: zipD r s
  | _, _ => []
/-- the items kept of a walk -/
def lcLoop (g : D → M (Option D)) : List D → M (List D)
  | [] => ret []
  | x :: xs => bnd (g x) fun r => bnd (lcLoop g xs) fun ys => ret (match r with
    | some y => y :: ys
    | none => ys)
def forLoop (g : D → Env → M Fl) : List D → Env → M Fl
  | [], ρ => ret (.nx ρ)
  | x :: xs, ρ => bnd (g x ρ) fun
    | .nx ρ' => forLoop g xs ρ'
    | .rt d => ret (.rt d)
def whlLoop (c : Env → M Bool) (g : Env → M Fl) : Nat → Env → M Fl
  | 0, _ => stk
  | n + 1, ρ => bnd (c ρ) fun b => match b with
    | true => bnd (g ρ) fun
      | .nx ρ' => whlLoop c g n ρ'
      | .rt d => ret (.rt d)
    | false => ret (.nx ρ)
/-- an answer: what is told, or the error's names -/
def ansM (m : M D) : M D := fun s => match m s with
  | .ok d s' => .ok (.tup [.str .told, d]) s'
  | .err (.many l) s' => .ok (.tup [.str .many, .int l]) s'
  | .err .nesting s' => .ok (.str .nesting) s'
  | .err .kind s' => .ok (.str .kind) s'
  | .err .program s' => .ok (.str .program) s'
  | .err .unlike s' => .ok (.str .unlike) s'
  | .stuck => .stuck
def items : D → M (List D)
  | .tup a => ret a
  | .lst a => ret a
  | _ => stk
def rangeD (j : Int) : List D := (List.range j.toNat).map fun (i : Nat) => D.int i
def capped (l : List D) : M (List D) := if l.length ≤ line then ret l else stk
section
variable (cal : Nat → List D → M D)
mutual
def evE : E → Env → M D
  | .cst d, _ => ret d
  | .var i, ρ => ofO (ρ[i]?.bind id)
  | .tupOwn i, ρ => match ρ[i]? with
    | some (some (.lst a)) => ret (.tup a)
    | _ => stk
  | .o1 o a, ρ => bnd (evE a ρ) fun x => ofO (op1 o x)
  | .o2 o a b, ρ => bnd (evE a ρ) fun x => bnd (evE b ρ) fun y => ofO (op2 o x y)
  | .slice a lo hi, ρ => bnd (evE a ρ) fun x => bnd (evEo lo ρ) fun l => bnd (evEo hi ρ) fun h => ofO (sliceO x l h)
  | .tup es, ρ => bnd (evEs es ρ) fun xs => ret (.tup xs)
  | .lst es, ρ => bnd (evEs es ρ) fun xs => ret (.lst xs)
  | .and a b, ρ => bnd (evE a ρ) fun x => bnd (truth x) fun c => match c with
    | true => evE b ρ
    | false => ret (.bl false)
  | .or a b, ρ => bnd (evE a ρ) fun x => bnd (truth x) fun c => match c with
    | true => ret (.bl true)
    | false => evE b ρ
  | .not a, ρ => bnd (evE a ρ) fun x => bnd (truth x) fun c => ret (.bl (!c))
  | .ite c a b, ρ => bnd (evE c ρ) fun x => bnd (truth x) fun c => match c with
    | true => evE a ρ
    | false => evE b ρ
  | .chain o p a b c, ρ => bnd (evE a ρ) fun x => bnd (evE b ρ) fun y => bnd (ofO (op2 o x y)) fun u => bnd (truth u) fun k => match k with
    | true => bnd (evE c ρ) fun z => ofO (op2 p y z)
    | false => ret (.bl false)
  | .call f es, ρ => bnd (evEs es ρ) fun xs => cal f xs
  | .comp elt tg it ifs own, ρ => bnd (evIt it ρ) fun xs => bnd (lcLoop (fun x => bnd (ofO (asgTg tg x (wipeE ρ own))) fun ρ' => bnd (evIfs ifs ρ') fun b => match b with
      | true => bnd (evE elt ρ') fun y => ret (some y)
      | false => ret none) xs) fun ys => ret (.lst ys)
  | .ans b, ρ => ansM (evE b ρ)
def evEs : Es → Env → M (List D)
  | .nil, _ => ret []
  | .cons e es, ρ => bnd (evE e ρ) fun x => bnd (evEs es ρ) fun xs => ret (x :: xs)
def evIfs : Es → Env → M Bool
  | .nil, _ => ret true
  | .cons e _, ρ => bnd (evE e ρ) truth
def evEo : Eo → Env → M (Option Int)
  | .none, _ => ret none
  | .some e, ρ => bnd (evE e ρ) fun x => match x with
    | .int i => ret (some i)
    | _ => stk
def evIt : It → Env → M (List D)
  | .seq e, ρ => bnd (evE e ρ) items
  | .range e, ρ => bnd (evE e ρ) fun x => match x with
    | .int j => if small j ∧ j ≤ line then ret (rangeD j) else stk
    | _ => stk
  | .enum e, ρ => bnd (evE e ρ) fun x => match x with
    | .tup a => ret (enumD 0 a)
    | _ => stk
  | .zip a b, ρ => bnd (evE a ρ) fun x => bnd (evE b ρ) fun y => match x, y with
    | .tup a, .tup b => ret (zipD a b)
    | _, _ => stk
end
def WN : Nat := 100000
mutual
def evS : S → Env → M Fl
  | .asg i e, ρ => bnd (evE cal e ρ) fun x => bnd (ofO (asgTg (.nm i) x ρ)) fun ρ' => ret (.nx ρ')
  | .asgT is e, ρ => bnd (evE cal e ρ) fun x => bnd (ofO (asgTg (.tup is) x ρ)) fun ρ' => ret (.nx ρ')
  | .par is es, ρ => bnd (evEs cal es ρ) fun xs => bnd (ofO (setAll is xs ρ)) fun ρ' => ret (.nx ρ')
  | .new i, ρ => bnd (ofO (asgTg (.nm i) (.lst []) ρ)) fun ρ' => ret (.nx ρ')
  | .app i e, ρ => match ρ[i]? with
    | some (some (.lst a)) => bnd (evE cal e ρ) fun x => if a.length < line then ret (.nx (ρ.set i (some (.lst (a ++ [x]))))) else stk
    | _ => stk
  | .exp e, ρ => bnd (evE cal e ρ) fun _ => ret (.nx ρ)
  | .rtn e, ρ => bnd (evE cal e ρ) fun x => ret (.rt x)
  | .ite c a b, ρ => bnd (evE cal c ρ) fun x => bnd (truth x) fun k => match k with
    | true => evSs a ρ
    | false => evSs b ρ
  | .for_ tg it b, ρ => bnd (evIt cal it ρ) fun xs => forLoop (fun x ρ => bnd (ofO (asgTg tg x ρ)) fun ρ' => evSs b ρ') xs ρ
  | .whl c b, ρ => whlLoop (fun ρ => bnd (evE cal c ρ) truth) (fun ρ => evSs b ρ) WN ρ
  | .raise x, _ => thr x
  | .raiseM e, ρ => bnd (evE cal e ρ) fun x => match x with
    | .int i => if okLim i then thr (.many i) else stk
    | _ => stk
def evSs : Ss → Env → M Fl
  | .nil, ρ => ret (.nx ρ)
  | .cons s ss, ρ => bnd (evS s ρ) fun
    | .nx ρ' => evSs ss ρ'
    | .rt d => ret (.rt d)
end
end
/-- a def's body at its arguments -/
def runB (cal : Nat → List D → M D) (n : Nat) (b : Ss) (ds : List D) : M D := bnd (evSs cal b (ds.map some ++ List.replicate (n - ds.length) none)) fun
  | .nx _ => ret .non
  | .rt d => ret d
structure Fn where
  slots : Nat
  pars : Nat
  body : Ss
  /-- whether its callees lie two levels lower (a lambda's) -/
  drop : Bool
/-- what a def does: by its body, or by a rule of its own -/
inductive Df where
  | fn (f : Fn) | prim (p : List D → M D)
def callK (tab : Nat → Option Df) : Nat → Nat → List D → M D
  | 0, _, _ => stk
  | k + 1, f, ds => match tab f with
    | some (.fn g) => if ds.length = g.pars then (match g.drop with
      | false => runB (callK tab k) g.slots g.body ds
      | true => match k with
        | j + 2 => runB (callK tab j) g.slots g.body ds
        | _ => stk) else stk
    | some (.prim p) => p ds
    | none => stk
end Nk
end
section
set_option Elab.async false
set_option linter.all false
set_option maxRecDepth 100000
/-! plain values in the heap -/
namespace Nk
open PySem PySem.Spec PyProof.Rows L2

def Tag.toStr : Tag → Str
  | .do_ => "do" | .row => "row" | .if_ => "if" | .ours => "ours" | .theirs => "theirs" | .times => "times" | .again => "again" | .end_ => "end"
  | .mark => "mark" | .about => "about" | .drop => "drop" | .open_ => "open" | .wrap => "wrap" | .double => "double" | .turn => "turn" | .only => "only" | .left => "left" | .right => "right"
  | .may => "may" | .game => "game" | .told => "told" | .kind => "kind" | .nesting => "nesting" | .program => "program" | .place => "place" | .picks => "picks" | .way => "way" | .number => "number" | .text => "text" | .unlike => "unlike" | .many => "many" | .other => "other"
def allTags : List Tag := [.do_, .row, .if_, .ours, .theirs, .times, .again, .end_, .mark, .about, .drop, .open_, .wrap, .double, .turn, .only, .left, .right, .may, .game, .told, .kind, .nesting, .program, .place, .picks, .way, .number, .text, .unlike, .many, .other]
theorem tags_apart : (allTags.map Tag.toStr).Nodup := by decide +kernel
theorem mem_allTags (t : Tag) : t ∈ allTags := by cases t <;> decide
theorem inj_of_nodup {α β : Type} {f : α → β} : ∀ {l : List α}, (l.map f).Nodup → ∀ a ∈ l, ∀ b ∈ l, f a = f b → a = b
  | [], _, _, h, _, _, _ => by cases h
  | x :: r, nd, a, ha, b, hb, e => by
    rw [List.map_cons, List.nodup_cons] at nd
    rcases List.mem_cons.mp ha with rfl | ha'
    · rcases List.mem_cons.mp hb with rfl | hb'
      · rfl
      · exact absurd (e ▸ List.mem_map_of_mem hb') nd.1
    · rcases List.mem_cons.mp hb with rfl | hb'
      · exact absurd (e ▸ List.mem_map_of_mem ha') nd.1
      · exact inj_of_nodup nd.2 a ha' b hb' e
theorem Tag.toStr_inj {a b : Tag} (h : a.toStr = b.toStr) : a = b := inj_of_nodup tags_apart a (mem_allTags a) b (mem_allTags b) h
theorem tags_ok : (allTags.all fun t => PyData.strOk t.toStr) = true := by decide +kernel
theorem Tag.ok (t : Tag) : PyData.strOk t.toStr = true := List.all_eq_true.mp tags_ok t (mem_allTags t)
theorem line_le : (line : Nat) ≤ sizeLine := by rw [sizeLine_eq]; decide
theorem line_lt : (line : Nat) < sizeLine := by rw [sizeLine_eq]; decide

mutual
inductive Rep (a0 : Addr) (M : Addr → Prop) (H : Hp) : V → D → Prop
  | non : Rep a0 M H .non .non
  | bl (b : Bool) : Rep a0 M H (.bl b) (.bl b)
  | int (i : Int) : Rep a0 M H (.int i) (.int i)
  | str (t : Tag) : Rep a0 M H (.str t.toStr) (.str t)
  | tup {a : Addr} {xs : List V} {ds : List D} : H a = some (.tup xs) → ds.length ≤ line → Reps a0 M H xs ds → Rep a0 M H (.ref a) (.tup ds)
  | lst {a : Addr} {xs : List V} {ds : List D} : H a = some (.lst xs) → ¬ M a → ds.length ≤ line → Reps a0 M H xs ds → Rep a0 M H (.ref a) (.lst ds)
  | src : Rep a0 M H (.ref a0) .src
inductive Reps (a0 : Addr) (M : Addr → Prop) (H : Hp) : List V → List D → Prop
  | nil : Reps a0 M H [] []
  | cons {v : V} {vs : List V} {d : D} {ds : List D} : Rep a0 M H v d → Reps a0 M H vs ds → Reps a0 M H (v :: vs) (d :: ds)
end
variable {a0 : Addr} {M M' : Addr → Prop} {H H' : Hp}
mutual
theorem Rep.mono : ∀ {d : D} {v : V}, Rep a0 M H v d → (∀ b o, H b = some o → ((∃ xs, o = .tup xs) ∨ (∃ xs, o = .lst xs) ∧ ¬ M b) → H' b = some o) → (∀ b xs, H b = some (.lst xs) → ¬ M b → ¬ M' b) → Rep a0 M' H' v d
  | .non, _, .non, _, _ => .non
  | .bl _, _, .bl b, _, _ => .bl b
  | .int _, _, .int b, _, _ => .int b
  | .str _, _, .str b, _, _ => .str b
  | .src, _, .src, _, _ => .src
  | .tup ds, _, .tup e l r, h, m => .tup (h _ _ e (.inl ⟨_, rfl⟩)) l (Reps.mono r h m)
  | .lst ds, _, .lst e n l r, h, m => .lst (h _ _ e (.inr ⟨⟨_, rfl⟩, n⟩)) (m _ _ e n) l (Reps.mono r h m)
theorem Reps.mono : ∀ {ds : List D} {vs : List V}, Reps a0 M H vs ds → (∀ b o, H b = some o → ((∃ xs, o = .tup xs) ∨ (∃ xs, o = .lst xs) ∧ ¬ M b) → H' b = some o) → (∀ b xs, H b = some (.lst xs) → ¬ M b → ¬ M' b) → Reps a0 M' H' vs ds
  | [], _, .nil, _, _ => .nil
  | d :: ds, _, .cons a r, h, m => .cons (Rep.mono a h m) (Reps.mono r h m)
end
theorem Reps.length : ∀ {ds : List D} {vs : List V}, Reps a0 M H vs ds → vs.length = ds.length
  | [], _, .nil => rfl
  | _ :: _, _, .cons _ r => by rw [List.length_cons, List.length_cons, Reps.length r]
theorem Reps.get : ∀ {ds : List D} {vs : List V} {i : Nat} {d : D}, Reps a0 M H vs ds → ds[i]? = some d → ∃ v, vs[i]? = some v ∧ Rep a0 M H v d
  | [], _, _, _, .nil, e => by simp at e
  | d :: ds, _, 0, _, .cons a r, e => by simp at e; subst e; exact ⟨_, rfl, a⟩
  | d :: ds, _, i + 1, _, .cons a r, e => by
    obtain ⟨v, e1, h⟩ := Reps.get (i := i) r (by simpa using e)
    exact ⟨v, by simpa using e1, h⟩
theorem Reps.append : ∀ {ds es : List D} {vs us : List V}, Reps a0 M H vs ds → Reps a0 M H us es → Reps a0 M H (vs ++ us) (ds ++ es)
  | [], _, _, _, .nil, s => s
  | _ :: _, _, _, _, .cons a r, s => .cons a (Reps.append r s)
theorem Reps.take : ∀ {ds : List D} {vs : List V} (n : Nat), Reps a0 M H vs ds → Reps a0 M H (vs.take n) (ds.take n)
  | _, _, 0, _ => .nil
  | [], _, _ + 1, .nil => .nil
  | _ :: _, _, n + 1, .cons a r => .cons a (Reps.take n r)
theorem Reps.drop : ∀ {ds : List D} {vs : List V} (n : Nat), Reps a0 M H vs ds → Reps a0 M H (vs.drop n) (ds.drop n)
  | _, _, 0, r => r
  | [], _, _ + 1, .nil => .nil
  | _ :: _, _, n + 1, .cons _ r => Reps.drop n r
theorem Reps.reverse : ∀ {ds : List D} {vs : List V}, Reps a0 M H vs ds → Reps a0 M H vs.reverse ds.reverse
  | [], _, .nil => .nil
  | _ :: _, _, .cons a r => by
    rw [List.reverse_cons, List.reverse_cons]
    exact (Reps.reverse r).append (.cons a .nil)
theorem Reps.flatten_replicate {ds : List D} {vs : List V} (r : Reps a0 M H vs ds) : ∀ n : Nat, Reps a0 M H (List.replicate n vs).flatten (List.replicate n ds).flatten
  | 0 => .nil
  | n + 1 => by
    rw [List.replicate_succ, List.replicate_succ, List.flatten_cons, List.flatten_cons]
    exact r.append (Reps.flatten_replicate r n)
theorem Reps.ints_of : ∀ {ds : List D} {vs : List V} {l : List Int}, Reps a0 M H vs ds → intsD ds = some l → vs = l.map V.int
  | [], _, _, .nil, e => by cases e; rfl
  | d :: ds, _, l, .cons a r, e => by
    cases d with
    | int i =>
      have e : (intsD ds).map (i :: ·) = some l := e
      obtain ⟨l', e', rfl⟩ := Option.map_eq_some_iff.mp e
      cases a
      rw [Reps.ints_of r e']; rfl
    | _ => cases e
theorem Reps.bls_of : ∀ {ds : List D} {vs : List V} {l : List Bool}, Reps a0 M H vs ds → blsD ds = some l → vs = l.map V.bl
  | [], _, _, .nil, e => by cases e; rfl
  | d :: ds, _, l, .cons a r, e => by
    cases d with
    | bl i =>
      have e : (blsD ds).map (i :: ·) = some l := e
      obtain ⟨l', e', rfl⟩ := Option.map_eq_some_iff.mp e
      cases a
      rw [Reps.bls_of r e']; rfl
    | _ => cases e
theorem Reps.strs_of : ∀ {ds : List D} {vs : List V} {l : List Tag}, Reps a0 M H vs ds → strsD ds = some l → vs = l.map fun t => V.str t.toStr
  | [], _, _, .nil, e => by cases e; rfl
  | d :: ds, _, l, .cons a r, e => by
    cases d with
    | str i =>
      have e : (strsD ds).map (i :: ·) = some l := e
      obtain ⟨l', e', rfl⟩ := Option.map_eq_some_iff.mp e
      cases a
      rw [Reps.strs_of r e']; rfl
    | _ => cases e
/-! ### as the library's data -/
mutual
def toPy : D → PyData
  | .non => .none
  | .bl b => .bool b
  | .int i => .int i
  | .str t => .str t.toStr
  | .tup ds => .tuple (toPys ds)
  | .lst ds => .list (toPys ds)
  | .src => .none
def toPys : List D → List PyData
  | [] => []
  | d :: ds => toPy d :: toPys ds
end
mutual
theorem Rep.dp {K : PySem.W.Frag} : ∀ {d : D} {v : V}, Rep a0 M H v d → nosrc d = true → Dp K H v (toPy d)
  | .non, _, .non, _ => .non
  | .bl _, _, .bl b, _ => .bl b
  | .int _, _, .int b, _ => .int b
  | .str _, _, .str b, _ => .str _
  | .src, _, .src, h => by simp [nosrc] at h
  | .tup ds, _, .tup e l r, h => by rw [toPy]; exact .tup (SqT.of e) (Reps.dp r (by simpa [nosrc] using h))
  | .lst ds, _, .lst e n l r, h => by rw [toPy]; exact .lst (SqL.of e) (Reps.dp r (by simpa [nosrc] using h))
theorem Reps.dp {K : PySem.W.Frag} : ∀ {ds : List D} {vs : List V}, Reps a0 M H vs ds → nosrcs ds = true → DpAll K H vs (toPys ds)
  | [], _, .nil, _ => by rw [toPys]; exact .nil
  | d :: ds, _, .cons a r, h => by
    have h' : nosrc d = true ∧ nosrcs ds = true := by simpa [nosrcs] using h
    rw [toPys]
    exact .cons (Rep.dp a h'.1) (Reps.dp r h'.2)
end
mutual
theorem toPy_lay : ∀ d : D, (toPy d).canLay0 = true
  | .non => by simp [toPy, PyData.canLay0]
  | .bl _ => by simp [toPy, PyData.canLay0]
  | .int _ => by simp [toPy, PyData.canLay0]
  | .str t => by simp [toPy, PyData.canLay0, t.ok]
  | .tup ds => by simp [toPy, PyData.canLay0, toPys_lay ds]
  | .lst ds => by simp [toPy, PyData.canLay0, toPys_lay ds]
  | .src => by simp [toPy, PyData.canLay0]
theorem toPys_lay : ∀ ds : List D, PyData.canLayAll0 (toPys ds) = true
  | [] => by simp [toPys, PyData.canLayAll0]
  | d :: ds => by simp [toPys, PyData.canLayAll0, toPy_lay d, toPys_lay ds]
end
mutual
theorem toPy_dep : ∀ d : D, (toPy d).depth = dep d
  | .non => by simp [toPy, PyData.depth, dep]
  | .bl _ => by simp [toPy, PyData.depth, dep]
  | .int _ => by simp [toPy, PyData.depth, dep]
  | .str t => by simp [toPy, PyData.depth, dep]
  | .tup ds => by simp [toPy, PyData.depth, dep, toPys_dep ds]
  | .lst ds => by simp [toPy, PyData.depth, dep, toPys_dep ds]
  | .src => by simp [toPy, PyData.depth, dep]
theorem toPys_dep : ∀ ds : List D, PyData.depthAll (toPys ds) = deps ds
  | [] => by simp [toPys, PyData.depthAll, deps]
  | d :: ds => by simp [toPys, PyData.depthAll, deps, toPy_dep d, toPys_dep ds]
end
mutual
theorem toPy_eqv : ∀ a b : D, nosrc a = true → nosrc b = true → PyData.eqv (toPy a) (toPy b) = eqv a b
  | .src, _, h, _ => by simp [nosrc] at h
  | .non, b, _, h => by cases b <;> simp [toPy, PyData.eqv, eqv, nosrc] at h ⊢
  | .bl _, b, _, h => by cases b <;> simp [toPy, PyData.eqv, eqv, nosrc] at h ⊢
  | .int _, b, _, h => by cases b <;> simp [toPy, PyData.eqv, eqv, nosrc] at h ⊢
  | .str x, b, _, h => by
    cases b with
    | str y =>
      simp only [toPy, PyData.eqv, eqv]
      by_cases e : x = y
      · subst e; simp
      · have e' : ¬ x.toStr = y.toStr := fun z => e (Tag.toStr_inj z)
        simp [e, e']
    | _ => simp [toPy, PyData.eqv, eqv, nosrc] at h ⊢
  | .tup xs, b, h1, h2 => by
    cases b with
    | tup ys => simp only [toPy, PyData.eqv, eqv]; exact toPys_eqv xs ys (by simpa [nosrc] using h1) (by simpa [nosrc] using h2)
    | _ => simp [toPy, PyData.eqv, eqv, nosrc] at h2 ⊢
  | .lst xs, b, h1, h2 => by
    cases b with
    | lst ys => simp only [toPy, PyData.eqv, eqv]; exact toPys_eqv xs ys (by simpa [nosrc] using h1) (by simpa [nosrc] using h2)
    | _ => simp [toPy, PyData.eqv, eqv, nosrc] at h2 ⊢
theorem toPys_eqv : ∀ a b : List D, nosrcs a = true → nosrcs b = true → PyData.eqvAll (toPys a) (toPys b) = eqvs a b
  | [], [], _, _ => by simp [toPys, PyData.eqvAll, eqvs]
  | [], _ :: _, _, _ => by simp [toPys, PyData.eqvAll, eqvs]
  | _ :: _, [], _, _ => by simp [toPys, PyData.eqvAll, eqvs]
  | a :: as, b :: bs, h1, h2 => by
    have h1' : nosrc a = true ∧ nosrcs as = true := by simpa [nosrcs] using h1
    have h2' : nosrc b = true ∧ nosrcs bs = true := by simpa [nosrcs] using h2
    simp only [toPys, PyData.eqvAll, eqvs, toPy_eqv a b h1'.1 h2'.1, toPys_eqv as bs h1'.2 h2'.2]
end
theorem toPys_any (d : D) (hd : nosrc d = true) : ∀ ds : List D, nosrcs ds = true → ((toPys ds).any fun z => PyData.eqv z (toPy d)) = ds.any fun z => eqv z d
  | [], _ => by simp [toPys]
  | e :: ds, h => by
    have h' : nosrc e = true ∧ nosrcs ds = true := by simpa [nosrcs] using h
    simp only [toPys, List.any_cons, toPy_eqv e d h'.1 hd, toPys_any d hd ds h'.2]

/-! ### the heap's state -/
abbrev TL := List (Addr × Str)
structure Hs (a0 : Addr) (M : Addr → Prop) (T : TL) (H : Hp) (st : Sr) : Prop where
  src : H a0 = some (.lst [.int st.c, .int st.n])
  m0 : M a0
  md : ∀ b, M b → ∃ xs, H b = some (.lst xs)
  tabs : LamX.Tabs T H
/-- all but the source and the code tables stays -/
def Ext (a0 : Addr) (H H' : Hp) : Prop := ∀ b o, H b = some o → b ≠ a0 → (∀ ps, o ≠ .tbl ps) → H' b = some o
theorem Ext.refl : Ext a0 H H := fun _ _ e _ _ => e
theorem Ext.trans {H1 H2 : Hp} (a : Ext a0 H H1) (b : Ext a0 H1 H2) : Ext a0 H H2 := fun c o e n t => b c o (a c o e n t) n t
theorem Ext.new {p : Addr} {o : HO} (h : H p = none) : Ext a0 H (upd H p o) := fun b u e _ _ => by rw [upd_ne (ne_of_none e h)]; exact e
theorem Ext.rep {T : TL} {st : Sr} (x : Ext a0 H H') (h : Hs a0 M T H st) {v : V} {d : D} (r : Rep a0 M H v d) : Rep a0 M H' v d := r.mono (fun b o e k => by
  refine x b o e ?_ ?_
  · rintro rfl
    rcases k with ⟨xs, rfl⟩ | ⟨_, n⟩
    · rw [h.src] at e; cases e
    · exact n h.m0
  · rintro ps rfl
    rcases k with ⟨xs, k⟩ | ⟨⟨xs, k⟩, _⟩ <;> cases k) fun _ _ _ n => n
theorem Ext.reps {T : TL} {st : Sr} (x : Ext a0 H H') (h : Hs a0 M T H st) {vs : List V} {ds : List D} (r : Reps a0 M H vs ds) : Reps a0 M H' vs ds := r.mono (fun b o e k => by
  refine x b o e ?_ ?_
  · rintro rfl
    rcases k with ⟨xs, rfl⟩ | ⟨_, n⟩
    · rw [h.src] at e; cases e
    · exact n h.m0
  · rintro ps rfl
    rcases k with ⟨xs, k⟩ | ⟨⟨xs, k⟩, _⟩ <;> cases k) fun _ _ _ n => n
/-- a new object keeps the state -/
theorem Hs.new {T : TL} {st : Sr} (h : Hs a0 M T H st) {p : Addr} {o : HO} (hp : H p = none) : Hs a0 M T (upd H p o) st where
  src := by rw [upd_ne (ne_of_none h.src hp)]; exact h.src
  m0 := h.m0
  md := fun b hb => by
    obtain ⟨xs, e⟩ := h.md b hb
    exact ⟨xs, by rw [upd_ne (ne_of_none e hp)]; exact e⟩
  tabs := h.tabs.ext fun b o e => by rw [upd_ne (ne_of_none e hp)]; exact e
theorem Hs.fresh {T : TL} {st : Sr} (h : Hs a0 M T H st) {p : Addr} (hp : H p = none) : ¬ M p := fun m => by
  obtain ⟨xs, e⟩ := h.md p m
  rw [hp] at e; cases e

/-! ### a frame's slots -/
/-- what a slot holds: an own list (that nothing else reaches, younger than the frame), or a value -/
def SlotR (a0 : Addr) (M0 M : Addr → Prop) (H : Hp) (own : Bool) (v : V) (d : D) : Prop := match own with
  | false => Rep a0 M H v d
  | true => ∃ a xs ds, v = .ref a ∧ d = .lst ds ∧ M a ∧ ¬ M0 a ∧ H a = some (.lst xs) ∧ ds.length ≤ line ∧ Reps a0 M H xs ds
structure EnvR0 (a0 : Addr) (M0 M : Addr → Prop) (own : Nat → Bool) (H : Hp) (σ : L2.St) (ρ : Env) : Prop where
  m00 : M0 a0
  len : σ.length = ρ.length
  slot : ∀ i d, ρ[i]? = some (some d) → ∃ v, σ[i]? = some (some v) ∧ SlotR a0 M0 M H (own i) v d
  apart : ∀ i j a, own i = true → own j = true → i ≠ j → σ[i]? = some (some (.ref a)) → ρ[i]?.bind id ≠ none → ρ[j]?.bind id ≠ none → σ[j]? ≠ some (some (.ref a))
variable {M0 : Addr → Prop}
theorem EnvR0.ext {T : TL} {st : Sr} {own : Nat → Bool} {σ : L2.St} {ρ : Env} (h : Hs a0 M T H st) (x : Ext a0 H H') (e : EnvR0 a0 M0 M own H σ ρ) : EnvR0 a0 M0 M own H' σ ρ := by
  refine ⟨e.m00, e.len, fun i d hd => ?_, e.apart⟩
  obtain ⟨v, h1, h2⟩ := e.slot i d hd
  refine ⟨v, h1, ?_⟩
  cases ho : own i with
  | false => rw [ho] at h2; exact x.rep h h2
  | true =>
    rw [ho] at h2
    obtain ⟨a, xs, ds, e1, e2, m, n, e3, l, r⟩ := h2
    exact ⟨a, xs, ds, e1, e2, m, n, x a _ e3 (fun z => n (z ▸ e.m00)) (fun ps z => by cases z), l, x.reps h r⟩
theorem EnvR0.set {own : Nat → Bool} {σ : L2.St} {ρ : Env} {i : Nat} {v : V} {d : D} (e : EnvR0 a0 M0 M own H σ ρ) (ho : own i = false) (r : Rep a0 M H v d) (hi : i < ρ.length) : EnvR0 a0 M0 M own H (σ.set i (some v)) (ρ.set i (some d)) := by
  have hσ : i < σ.length := by rw [e.len]; exact hi
  refine ⟨e.m00, by simp [e.len], fun j d' hd => ?_, fun j k a h1 h2 hjk hs hj hk => ?_⟩
  · by_cases hj : j = i
    · subst hj
      rw [List.getElem?_set_self hi] at hd
      cases hd
      exact ⟨v, by rw [List.getElem?_set_self hσ], by rw [ho]; exact r⟩
    · rw [List.getElem?_set_ne (Ne.symm hj)] at hd
      obtain ⟨u, h1, h2⟩ := e.slot j d' hd
      exact ⟨u, by rw [List.getElem?_set_ne (Ne.symm hj)]; exact h1, h2⟩
  · have n1 : j ≠ i := fun z => by rw [z, ho] at h1; cases h1
    have n2 : k ≠ i := fun z => by rw [z, ho] at h2; cases h2
    rw [List.getElem?_set_ne (Ne.symm n1)] at hs hj
    rw [List.getElem?_set_ne (Ne.symm n2)] at hk ⊢
    exact e.apart j k a h1 h2 hjk hs hj hk
/-- a slot forgotten -/
theorem EnvR0.unset {own : Nat → Bool} {σ : L2.St} {ρ : Env} {i : Nat} (e : EnvR0 a0 M0 M own H σ ρ) : EnvR0 a0 M0 M own H (σ.set i none) (ρ.set i none) := by
  refine ⟨e.m00, by simp [e.len], fun j d' hd => ?_, fun j k a h1 h2 hjk hs hj hk => ?_⟩
  · by_cases hj : j = i
    · subst hj
      by_cases hl : j < ρ.length
      · rw [List.getElem?_set_self hl] at hd; cases hd
      · rw [List.getElem?_eq_none (by simpa using hl)] at hd; cases hd
    · rw [List.getElem?_set_ne (Ne.symm hj)] at hd
      obtain ⟨u, h1, h2⟩ := e.slot j d' hd
      exact ⟨u, by rw [List.getElem?_set_ne (Ne.symm hj)]; exact h1, h2⟩
  · have g : ∀ m, (ρ.set i none)[m]?.bind id ≠ none → m ≠ i ∧ ρ[m]?.bind id ≠ none := fun m hm => by
      have n1 : m ≠ i := fun z => by
        subst z
        by_cases hl : m < ρ.length
        · rw [List.getElem?_set_self hl] at hm; exact hm rfl
        · rw [List.getElem?_eq_none (by simpa using hl)] at hm; exact hm rfl
      rw [List.getElem?_set_ne (Ne.symm n1)] at hm
      exact ⟨n1, hm⟩
    obtain ⟨a1, a2⟩ := g j hj
    obtain ⟨b1, b2⟩ := g k hk
    rw [List.getElem?_set_ne (Ne.symm a1)] at hs
    rw [List.getElem?_set_ne (Ne.symm b1)]
    exact e.apart j k a h1 h2 hjk hs a2 b2
theorem EnvR0.wipe {own : Nat → Bool} {σ : L2.St} {ρ : Env} (e : EnvR0 a0 M0 M own H σ ρ) : ∀ vs : List Nat, EnvR0 a0 M0 M own H (wipe σ vs) (wipeE ρ vs)
  | [] => e
  | v :: vs => (EnvR0.wipe e vs).unset
/-- what may change grows, by new addresses; the rest of the heap stays -/
structure Later (M : Addr → Prop) (H : Hp) (M' : Addr → Prop) (H' : Hp) : Prop where
  sub : ∀ b, M b → M' b
  new : ∀ b o, M' b → ¬ M b → H b = some o → ∃ ps, o = .tbl ps
  keep : ∀ b o, H b = some o → ¬ M b → (∀ ps, o ≠ .tbl ps) → H' b = some o
theorem Later.refl : Later M H M H := ⟨fun _ h => h, fun _ _ h n => absurd h n, fun _ _ h _ _ => h⟩
theorem Later.ext {T : TL} {st : Sr} (hs : Hs a0 M T H st) (x : Ext a0 H H') : Later M H M H' := ⟨fun _ h => h, fun _ _ h n => absurd h n, fun b o e n t => x b o e (fun z => n (z ▸ hs.m0)) t⟩
theorem Later.trans {H1 H2 : Hp} {M1 M2 : Addr → Prop} (a : Later M H M1 H1) (b : Later M1 H1 M2 H2) : Later M H M2 H2 := by
  refine ⟨fun c h => b.sub c (a.sub c h), fun c o h n e => ?_, fun c o e n t => ?_⟩
  · by_cases h1 : M1 c
    · exact a.new c o h1 n e
    · by_cases t : ∃ ps, o = .tbl ps
      · exact t
      · exact b.new c o h h1 (a.keep c o e n fun ps z => t ⟨ps, z⟩)
  · refine b.keep c o (a.keep c o e n t) (fun h1 => ?_) t
    obtain ⟨ps, z⟩ := a.new c o h1 n e
    exact t ps z
theorem Later.rep (l : Later M H M' H') {v : V} {d : D} (r : Rep a0 M H v d) (hm : ∀ b xs, H b = some (.tup xs) → ¬ M b) : Rep a0 M' H' v d := r.mono (fun b o e k => by
  rcases k with ⟨xs, rfl⟩ | ⟨⟨xs, rfl⟩, n⟩
  · exact l.keep b _ e (hm b xs e) fun ps z => by cases z
  · exact l.keep b _ e n fun ps z => by cases z) fun b xs e n m => by
    obtain ⟨ps, z⟩ := l.new b _ m n e
    cases z
theorem Later.reps (l : Later M H M' H') {vs : List V} {ds : List D} (r : Reps a0 M H vs ds) (hm : ∀ b xs, H b = some (.tup xs) → ¬ M b) : Reps a0 M' H' vs ds := r.mono (fun b o e k => by
  rcases k with ⟨xs, rfl⟩ | ⟨⟨xs, rfl⟩, n⟩
  · exact l.keep b _ e (hm b xs e) fun ps z => by cases z
  · exact l.keep b _ e n fun ps z => by cases z) fun b xs e n m => by
    obtain ⟨ps, z⟩ := l.new b _ m n e
    cases z
theorem Hs.noTup {T : TL} {st : Sr} (h : Hs a0 M T H st) : ∀ b xs, H b = some (.tup xs) → ¬ M b := fun b xs e m => by
  obtain ⟨ys, e'⟩ := h.md b m
  rw [e] at e'; cases e'
/-- the frame for expressions -/
def EnvR (a0 : Addr) (M : Addr → Prop) (own : Nat → Bool) (H : Hp) (σ : L2.St) (ρ : Env) : Prop := ∃ M0, EnvR0 a0 M0 M own H σ ρ
theorem EnvR.ext {T : TL} {st : Sr} {own : Nat → Bool} {σ : L2.St} {ρ : Env} (h : Hs a0 M T H st) (x : Ext a0 H H') (e : EnvR a0 M own H σ ρ) : EnvR a0 M own H' σ ρ := let ⟨M0, e⟩ := e; ⟨M0, e.ext h x⟩
/-- as SlotR, for expressions -/
def SlotE (a0 : Addr) (M : Addr → Prop) (H : Hp) (own : Bool) (v : V) (d : D) : Prop := match own with
  | false => Rep a0 M H v d
  | true => ∃ a xs ds, v = .ref a ∧ d = .lst ds ∧ M a ∧ a ≠ a0 ∧ H a = some (.lst xs) ∧ ds.length ≤ line ∧ Reps a0 M H xs ds
theorem EnvR.slot {own : Nat → Bool} {σ : L2.St} {ρ : Env} (e : EnvR a0 M own H σ ρ) (i : Nat) (d : D) (h : ρ[i]? = some (some d)) : ∃ v, σ[i]? = some (some v) ∧ SlotE a0 M H (own i) v d := by
  obtain ⟨M0, e⟩ := e
  obtain ⟨v, h1, h2⟩ := e.slot i d h
  refine ⟨v, h1, ?_⟩
  cases ho : own i with
  | false => rw [ho] at h2; exact h2
  | true =>
    rw [ho] at h2
    obtain ⟨a, xs, ds, e1, e2, m, n, e3, l, r⟩ := h2
    exact ⟨a, xs, ds, e1, e2, m, fun z => n (z ▸ e.m00), e3, l, r⟩
end Nk
end
section
set_option Elab.async false
set_option linter.all false
set_option maxRecDepth 100000
/-! from the text to the small language -/
namespace Nk
open PySem L2
/-- a place in a list of names -/
def findIx : List Str → Str → Option Nat
  | [], _ => none
  | y :: r, x => if x = y then some 0 else (findIx r x).map (· + 1)
theorem findIx_get : ∀ {N : List Str} {x : Str} {i : Nat}, findIx N x = some i → N[i]? = some x
  | y :: r, x, i, h => by
    unfold findIx at h
    split at h
    · cases h; rename_i e; subst e; rfl
    · obtain ⟨j, e, rfl⟩ := Option.map_eq_some_iff.mp h
      simpa using findIx_get e
structure Sx where
  N : List Str
  own : List Str
  sc : Scope
  cellOk : Str → Bool
  /-- a def's own scope: comprehensions may stand here -/
  cmp : Bool
  /-- lambdas may stand here -/
  lam : Bool
  /-- a limit may be raised here -/
  rm : Bool
/-- the globals -/
structure Gx where
  fid : Str → Option Nat
  gc : Str → Option Int
  tag : Str → Option Tag
def okName (x : Str) : Bool := !(x == ("__debug__" : Str)) && !(x == ("__classdict__" : Str)) && !(x == ("__name__" : Str))
def isGl (X : Sx) (x : Str) : Bool := okName x && decide (X.sc.names.lookup x = some .globalImplicit)
/-- a name to be read -/
def slotOf (X : Sx) (x : Str) : Option Nat := match okName x, X.sc.names.lookup x with
  | true, some .local => findIx X.N x
  | true, some .cell => findIx X.N x
  | true, some .free => findIx X.N x
  | _, _ => none
/-- a name to be stored -/
def tgOf (X : Sx) (x : Str) : Option Nat := match X.sc.names.lookup x with
  | some .local => findIx X.N x
  | some .cell => if X.cellOk x then findIx X.N x else none
  | _ => none
def binO : Operator → Option O2
  | .Add => some .add
  | .Sub => some .sub
  | .Mult => some .mul
  | .Mod => some .mod
  | .FloorDiv => some .fdiv
  | _ => none
def cmpO : CmpOp → Option O2
  | .Eq => some .eq
  | .NotEq => some .ne
  | .Lt => some .lt
  | .LtE => some .le
  | .Gt => some .gt
  | .GtE => some .ge
  | .In => some .isin
  | .NotIn => some .notin
  | _ => none
def ordO : CmpOp → Option O2
  | .Lt => some .lt
  | .LtE => some .le
  | .Gt => some .gt
  | .GtE => some .ge
  | _ => none
def cConst (G : Gx) : Const → Option D
  | .none => some .non
  | .bool b => some (.bl b)
  | .int i => some (.int i)
  | .str x => (G.tag x).map .str
  | _ => none
def bi1 (x : Str) : Option O1 :=
  if x = ("len" : Str) then some .len else if x = ("sum" : Str) then some .sum else if x = ("all" : Str) then some .all else if x = ("max" : Str) then some .max
  else if x = ("tuple" : Str) then some .tuple else if x = ("list" : Str) then some .list else if x = ("int" : Str) then some .int else none
def isiO (x : Str) : Option O1 :=
  if x = ("int" : Str) then some .isint else if x = ("bool" : Str) then some .isbool else if x = ("tuple" : Str) then some .istup else if x = ("str" : Str) then some .isstr else none
def namesOf : List Expr → Option (List Str)
  | [] => some []
  | .Name x _ :: r => (namesOf r).map (x :: ·)
  | _ => none
def tgsOf (X : Sx) : List Expr → Option (List Nat)
  | [] => some []
  | .Name x _ :: r => match X.own.contains x, tgOf X x, tgsOf X r with
    | false, some i, some is => some (i :: is)
    | _, _, _ => none
  | _ => none
def cTg (X : Sx) : Expr → Option Tg
  | .Name x _ => match X.own.contains x, tgOf X x with
    | false, some i => some (.nm i)
    | _, _ => none
  | .Tuple ts _ _ => (tgsOf X ts).map .tup
  | _ => none
/-- a comprehension's own names with their places -/
def ownOf (N : List Str) : List (Str × NameKind) → List (Str × Nat)
  | [] => []
  | (y, k) :: r => match k, findIx N y with
    | .local, some i => (y, i) :: ownOf N r
    | .cell, some i => (y, i) :: ownOf N r
    | _, _ => ownOf N r
def inner (X : Sx) (scope : Scope) : Sx := { X with sc := relS scope X.sc, cellOk := fun x => scope.names.lookup x == some .cell, cmp := false, lam := false, rm := false }
def lamSx (X : Sx) (scope : Scope) : Sx := { X with sc := scope, cellOk := fun _ => false, cmp := false, lam := false, rm := false }
def noOwn (X : Sx) (l : List (Str × Nat)) : Bool := l.all fun p => !X.own.contains p.1
/-- pairs are walked by pairs of names -/
def okTI : Tg → It → Bool
  | .nm _, .enum _ => false
  | .nm _, .zip _ _ => false
  | _, _ => true
def isSlice : Expr → Bool
  | .Slice .. => true
  | _ => false
section
variable (G : Gx)
mutual
def cE : Nat → Sx → Expr → Option E
  | 0, _, _ => none
  | n + 1, X, .Constant c _ _ => (cConst G c).map .cst
  | n + 1, X, .Name x _ => match X.own.contains x, slotOf X x with
    | false, some i => some (.var i)
    | _, _ => match isGl X x, G.gc x with
      | true, some i => some (.cst (.int i))
      | _, _ => none
  | n + 1, X, .Tuple es _ _ => if es.length ≤ 1000 then (cEs n X es).map .tup else none
  | n + 1, X, .List es _ => if es.length ≤ 1000 then (cEs n X es).map .lst else none
  | n + 1, X, .BinOp a op b _ => match binO op, cE n X a, cE n X b with
    | some o, some a, some b => some (.o2 o a b)
    | _, _, _ => none
  | n + 1, X, .UnaryOp .Not a _ => (cE n X a).map .not
  | n + 1, X, .UnaryOp .USub a _ => (cE n X a).map (.o1 .neg)
  | n + 1, X, .BoolOp op es _ => cB n X op es
  | n + 1, X, .IfExp c a b _ => match cE n X c, cE n X a, cE n X b with
    | some c, some a, some b => some (.ite c a b)
    | _, _, _ => none
  | n + 1, X, .Compare a [.Is] [.Constant .none _ _] _ => (cE n X a).map (.o1 .isnone)
  | n + 1, X, .Compare a [.IsNot] [.Constant .none _ _] _ => (cE n X a).map (.o1 .notnone)
  | n + 1, X, .Compare a [op] [b] _ => match cmpO op, cE n X a, cE n X b with
    | some o, some a, some b => some (.o2 o a b)
    | _, _, _ => none
  | n + 1, X, .Compare a [op, oq] [b, c] _ => match ordO op, ordO oq, cE n X a, cE n X b, cE n X c with
    | some o, some p, some a, some b, some c => some (.chain o p a b c)
    | _, _, _, _, _ => none
  | n + 1, X, .Subscript a (.Slice lo hi none _) _ => match cE n X a, cEo n X lo, cEo n X hi with
    | some a, some l, some h => some (.slice a l h)
    | _, _, _ => none
  | n + 1, X, .Subscript a (.Slice none none (some (.UnaryOp .USub (.Constant (.int 1) _ _) _)) _) _ => (cE n X a).map (.o1 .rev)
  | n + 1, X, .Subscript a b _ => match isSlice b, cE n X a, cE n X b with
    | false, some a, some b => some (.o2 .ix a b)
    | _, _, _ => none
  | n + 1, X, .Call (.Name f _) args [] _ => match isGl X f with
    | true => cC n X f args
    | false => none
  | n + 1, X, .ListComp elt [⟨tg, iter, ifs, 0⟩] scope _ =>
    match X.cmp && blkC X.N X.sc scope (ownOf X.N scope.names) && noOwn X (ownOf X.N scope.names), cIt n X iter, cTg (inner X scope) tg, cE n (inner X scope) elt, cIfs n (inner X scope) ifs with
    | true, some it, some t, some e, some i => if okTI t it then some (.comp e t it i ((ownOf X.N scope.names).map (·.2))) else none
    | _, _, _, _, _ => none
  | _ + 1, _, _ => none
def cEs : Nat → Sx → List Expr → Option Es
  | 0, _, _ => none
  | _ + 1, _, [] => some .nil
  | n + 1, X, e :: es => match cE n X e, cEs n X es with
    | some e, some es => some (.cons e es)
    | _, _ => none
def cB : Nat → Sx → BoolOp → List Expr → Option E
  | 0, _, _, _ => none
  | n + 1, X, _, [e] => cE n X e
  | n + 1, X, .And, e :: es => match cE n X e, cB n X .And es with
    | some a, some b => some (.and a b)
    | _, _ => none
  | n + 1, X, .Or, e :: es => match cE n X e, cB n X .Or es with
    | some a, some b => some (.or a b)
    | _, _ => none
  | _ + 1, _, _, [] => none
def cEo : Nat → Sx → Option Expr → Option Eo
  | 0, _, _ => none
  | _ + 1, _, none => some .none
  | n + 1, X, some e => (cE n X e).map .some
def cIfs : Nat → Sx → List Expr → Option Es
  | 0, _, _ => none
  | _ + 1, _, [] => some .nil
  | n + 1, X, [e] => (cE n X e).map fun e => .cons e .nil
  | _ + 1, _, _ => none
def cIt : Nat → Sx → Expr → Option It
  | 0, _, _ => none
  | n + 1, X, .Call (.Name f p) args [] q =>
    if f = ("range" : Str) then match isGl X f, args with
      | true, [a] => (cE n X a).map .range
      | _, _ => none
    else if f = ("enumerate" : Str) then match isGl X f, args with
      | true, [a] => (cE n X a).map .enum
      | _, _ => none
    else if f = ("zip" : Str) then match isGl X f, args with
      | true, [a, b] => match cE n X a, cE n X b with
        | some a, some b => some (.zip a b)
        | _, _ => none
      | _, _ => none
    else (cE n X (.Call (.Name f p) args [] q)).map .seq
  | n + 1, X, e => (cE n X e).map .seq
/-- a call of a global name -/
def cC : Nat → Sx → Str → List Expr → Option E
  | 0, _, _, _ => none
  | n + 1, X, f, args =>
    if f = ("isinstance" : Str) then match args with
      | [a, .Name T _] => match isGl X T, isiO T, cE n X a with
        | true, some o, some a => some (.o1 o a)
        | _, _, _ => none
      | _ => none
    else if f = ("_law_answer" : Str) then match args with
      | [.Lambda params body scope _] => match X.lam && LamX.lamSB X.sc scope && params.posonlyargs.isEmpty && params.args.isEmpty && params.vararg.isNone && params.kwonlyargs.isEmpty && params.kw_defaults.isEmpty && params.kwarg.isNone && params.defaults.isEmpty, cE n (lamSx X scope) body with
        | true, some b => some (.ans b)
        | _, _ => none
      | _ => none
    else match bi1 f with
      | some o => match args with
        | [.Name x p] => match decide (f = ("tuple" : Str)) && X.own.contains x, slotOf X x with
          | true, some i => some (.tupOwn i)
          | true, none => none
          | false, _ => (cE n X (.Name x p)).map (.o1 o)
        | [a] => (cE n X a).map (.o1 o)
        | _ => none
      | none => match G.fid f, cEs n X args with
        | some i, some es => some (.call i es)
        | _, _ => none
end
/-- the exceptions' classes by name -/
def excO (x : Str) : Option Xc :=
  if x = ("InvalidNesting" : Str) then some .nesting else if x = ("InvalidKind" : Str) then some .kind else if x = ("InvalidProgram" : Str) then some .program else if x = ("Unlike" : Str) then some .unlike else none
def isDisp : Expr → Bool
  | .Tuple .. => true
  | .List .. => true
  | _ => false
/-- names on one line -/
def sameLine (l : Nat) : List Expr → Bool
  | [] => true
  | .Name _ p :: r => decide (p.line = l) && sameLine l r
  | _ => false
def allLocal (X : Sx) : List Str → Bool
  | [] => true
  | x :: r => decide (X.sc.names.lookup x = some .local) && allLocal X r
def firstLine : List Expr → Nat
  | e :: _ => e.pos.line
  | [] => 0
def parOk (X : Sx) (ts es : List Expr) : Bool := match namesOf ts with
  | some xs => decide (2 ≤ xs.length) && decide (xs.length ≤ 3) && decide (es.length = xs.length) && decide xs.Nodup && allLocal X xs && sameLine (firstLine ts) ts && !(es.all (foldedForSure 8)) && !(es.all (constantsAlone 8))
  | none => false
def noStar : Expr → Bool
  | .Starred .. => false
  | _ => true
mutual
def cS : Nat → Sx → Stmt → Option S
  | 0, _, _ => none
  | n + 1, X, .Assign [.Name x _] e _ => match X.own.contains x, tgOf X x with
    | false, some i => (cE G n X e).map (.asg i)
    | true, some i => match e with
      | .List [] _ => some (.new i)
      | _ => none
    | _, _ => none
  | n + 1, X, .Assign [.Tuple ts _ _] (.Tuple es _ _) _ => match parOk X ts es, tgsOf X ts, cEs G n X es with
    | true, some is, some es => some (.par is es)
    | _, _, _ => none
  | n + 1, X, .Assign [.Tuple ts _ _] e _ => match isDisp e, tgsOf X ts, cE G n X e with
    | false, some is, some e => some (.asgT is e)
    | _, _, _ => none
  | n + 1, X, .Return (some e) _ => (cE G n X e).map .rtn
  | n + 1, X, .If c a b _ => match cE G n X c, cSs n X a, cSs n X b with
    | some c, some a, some b => some (.ite c a b)
    | _, _, _ => none
  | n + 1, X, .For tg iter body [] _ => match cTg X tg, cIt G n X iter, cSs n X body with
    | some t, some i, some b => if okTI t i then some (.for_ t i b) else none
    | _, _, _ => none
  | n + 1, X, .While c body [] _ => match cE G n X c, cSs n X body with
    | some c, some b => some (.whl c b)
    | _, _ => none
  | n + 1, X, .Expr (.Call (.Attribute (.Name x _) m ap) [e] [] cp) _ => match X.own.contains x && decide (m = ("append" : Str)) && (ap.endLine == cp.line), slotOf X x, cE G n X e with
    | true, some i, some e => some (.app i e)
    | _, _, _ => none
  | n + 1, X, .Expr (.Call f args kw p) _ => (cE G n X (.Call f args kw p)).map .exp
  | n + 1, X, .Raise (some (.Call (.Name x _) [.Constant (.str _) _ _] [] _)) none _ => match isGl X x, excO x with
    | true, some c => some (.raise c)
    | _, _ => none
  | n + 1, X, .Raise (some (.Call (.Name x _) [e] [] _)) none _ => match isGl X x && decide (x = ("TooMany" : Str)) && X.rm, cE G n X e with
    | true, some e => some (.raiseM e)
    | _, _ => none
  | _ + 1, _, _ => none
def cSs : Nat → Sx → List Stmt → Option Ss
  | 0, _, _ => none
  | _ + 1, _, [] => some .nil
  | n + 1, X, s :: ss => match cS n X s, cSs n X ss with
    | some s, some ss => some (.cons s ss)
    | _, _ => none
end
end
end Nk
end
section
set_option Elab.async false
set_option linter.all false
set_option maxRecDepth 100000
/-! the defs' bodies -/
namespace Nk
open PySem L2
def topS (i : Nat) : Stmt := PySem.Challenge.pw_nestkinds_k48_whole_picks_and_plans.main.body.getD i (.Pass ⟨0, 0, 0, 0⟩)

def fnames : List Str := (["is_whole", "shape_of", "has_nesting", "boxes_in", "need_nesting", "is_rising", "is_table", "has_kind", "need_kind", "row_end", "is_of", "first_rows", "classes_of", "least_of_table", "least_of", "other_of", "other", "is_marks", "is_notes", "has_step", "marked", "noted", "dropped", "opened", "wrapped"] : List Str) ++ (["doubled", "turned", "only_one", "stepped", "doubled_boxes", "ran", "inner_of", "are_parts", "has_part", "many_parts", "has_program", "need_program", "unfolded", "gone_on", "need_stands_of", "all_gone", "first_picks", "plan_of", "fits_plan", "whole_tree", "picks_to", "plan", "is_plan", "_law_source", "_law_draw"] : List Str) ++ (["_law_choice", "_law_from", "_law_truly", "_law_names", "_law_size", "_law_deep", "_law_nesting", "_law_put_in", "_law_kind", "_law_end", "_law_is_of", "_law_marks", "_law_step", "_law_stepped", "_law_known", "_law_answer", "_law_part", "_law_within", "_law_many", "_law_program", "_law_twice", "_law_done", "_law_ends", "_law_wins", "_law_programs"] : List Str) ++ (["_law_sample", "_law_lively", "_law_is_plan", "_law_bent", "_law_right", "law"] : List Str)
def consts : List (Str × Int) := [("BOXES", 60), ("DEEP", 12), ("STANDINGS", 24), ("MOST", 5000), ("PARTS", 12), ("LEVELS", 5), ("TIMES", 10 ^ 30), ("DONE", 1000), ("CHOICES", 8)]
def tagNames : List Str := allTags.map Tag.toStr
def gx : Gx where
  fid := findIx fnames
  gc := fun x => consts.lookup x
  tag := fun x => (findIx tagNames x).bind fun i => allTags[i]?
def sxOf (N own : List Str) (lam rm : Bool) (s : Stmt) : Sx := ⟨N, own, defScope s, fun _ => true, true, lam, rm⟩
structure Dd where
  at_ : Nat
  name : Str
  N : List Str
  pars : List Str
  own : List Str
/-- the two defs with lambdas -/
def Dd.lam (d : Dd) : Bool := decide (d.at_ = 108) || decide (d.at_ = 109)
/-- the defs whose callees lie two levels lower -/
def Dd.drop (d : Dd) : Bool := d.lam || decide (d.at_ = 50) || decide (d.at_ = 63) || decide (d.at_ = 68)

def d_0 : Dd := ⟨15, "is_whole", ["value", "low", "high"], ["value", "low", "high"], []⟩
def d_1 : Dd := ⟨16, "shape_of", ["stands", "value", "deep", "many", "box", "inner"], ["stands", "value", "deep"], []⟩
def d_2 : Dd := ⟨17, "has_nesting", ["stands", "value"], ["stands", "value"], []⟩
def d_3 : Dd := ⟨18, "boxes_in", ["row", "stand", "inner"], ["row"], []⟩
def d_4 : Dd := ⟨19, "need_nesting", ["stands", "value"], ["stands", "value"], []⟩
def d_5 : Dd := ⟨22, "is_rising", ["value", "top", "one", "later"], ["value", "top"], []⟩
def d_6 : Dd := ⟨23, "is_table", ["stands", "value", "most", "many", "row", "part", "one"], ["stands", "value", "most"], []⟩
def d_7 : Dd := ⟨24, "has_kind", ["value"], ["value"], []⟩
def d_8 : Dd := ⟨25, "need_kind", ["value"], ["value"], []⟩
def d_9 : Dd := ⟨26, "row_end", ["table", "row", "here", "stand", "inner"], ["table", "row"], []⟩
def d_10 : Dd := ⟨27, "is_of", ["kind", "row"], ["kind", "row"], []⟩
def d_11 : Dd := ⟨28, "first_rows", ["table", "stands", "found", "grown", "here", "inner", "stand", "goal", "size", "there"], ["table", "stands"], []⟩
def d_12 : Dd := ⟨29, "classes_of", ["table", "stands", "good", "heres", "found", "here", "many", "rows", "row", "stand", "there", "order", "numbers", "at"], ["table", "stands", "good", "heres"], []⟩
def d_13 : Dd := ⟨30, "least_of_table", ["stands", "table", "good", "rows", "found", "heads", "here", "order", "row", "number", "numbers", "at", "fresh", "part", "inner", "stand"], ["stands", "table", "good"], []⟩
def d_14 : Dd := ⟨31, "least_of", ["kind"], ["kind"], []⟩
def d_15 : Dd := ⟨33, "other_of", ["kind", "at"], ["kind"], []⟩
def d_16 : Dd := ⟨34, "other", ["kind"], ["kind"], []⟩
def d_17 : Dd := ⟨37, "is_marks", ["stands", "value", "many", "row", "one"], ["stands", "value", "many"], []⟩
def d_18 : Dd := ⟨38, "is_notes", ["stands", "value", "row", "pair"], ["stands", "value"], []⟩
def d_19 : Dd := ⟨39, "has_step", ["stands", "value", "word"], ["stands", "value"], []⟩
def d_20 : Dd := ⟨40, "marked", ["table", "new", "row", "stand", "inner"], ["table", "new", "row"], []⟩
def d_21 : Dd := ⟨41, "noted", ["table", "note", "row", "found", "stand", "inner", "fresh", "later"], ["table", "note", "row"], []⟩
def d_22 : Dd := ⟨42, "dropped", ["which", "row", "stand", "inner"], ["which", "row"], []⟩
def d_23 : Dd := ⟨43, "opened", ["which", "row", "found", "stand", "inner", "within"], ["which", "row"], []⟩
def d_24 : Dd := ⟨44, "wrapped", ["which", "new", "row", "found", "stand", "inner", "box"], ["which", "new", "row"], []⟩
def d_25 : Dd := ⟨45, "doubled", ["which", "row", "found", "stand", "inner", "box"], ["which", "row"], []⟩
def d_26 : Dd := ⟨46, "turned", ["row", "stand", "inner"], ["row"], []⟩
def d_27 : Dd := ⟨47, "only_one", ["side", "which", "row", "sites", "at", "box", "kept", "left", "stand", "inner"], ["side", "which", "row"], []⟩
def d_28 : Dd := ⟨48, "stepped", ["step", "row", "word"], ["step", "row"], []⟩
def d_29 : Dd := ⟨49, "doubled_boxes", ["which", "row", "stand", "inner"], ["which", "row"], []⟩
def d_30 : Dd := ⟨50, "ran", ["script", "row", "step"], ["script", "row"], []⟩
def d_31 : Dd := ⟨56, "inner_of", ["part"], ["part"], []⟩
def d_32 : Dd := ⟨57, "are_parts", ["stands", "values", "levels", "value"], ["stands", "values", "levels"], []⟩
def d_33 : Dd := ⟨58, "has_part", ["stands", "value", "levels", "word", "many", "good"], ["stands", "value", "levels"], []⟩
def d_34 : Dd := ⟨59, "many_parts", ["part", "inner"], ["part"], []⟩
def d_35 : Dd := ⟨60, "has_program", ["value"], ["value"], []⟩
def d_36 : Dd := ⟨61, "need_program", ["value"], ["value"], []⟩
def d_37 : Dd := ⟨62, "unfolded", ["part", "row", "marks", "word"], ["part", "row", "marks"], []⟩
def d_38 : Dd := ⟨63, "gone_on", ["stands", "row", "stack", "marks", "part"], ["stands", "row", "stack", "marks"], []⟩
def d_39 : Dd := ⟨65, "need_stands_of", ["program", "others", "other"], ["program", "others"], []⟩
def d_40 : Dd := ⟨68, "all_gone", ["stands", "row", "stack", "marks", "choice", "found", "part"], ["stands", "row", "stack", "marks"], []⟩
def d_41 : Dd := ⟨69, "first_picks", ["ways", "kind", "pick", "found"], ["ways", "kind"], []⟩
def d_42 : Dd := ⟨70, "plan_of", ["ways", "kind", "found", "later", "pick"], ["ways", "kind"], []⟩
def d_43 : Dd := ⟨71, "fits_plan", ["ways", "kind", "value"], ["ways", "kind", "value"], []⟩
def d_44 : Dd := ⟨72, "whole_tree", ["program", "nesting", "kind"], ["program", "nesting", "kind"], []⟩
def d_45 : Dd := ⟨73, "picks_to", ["program", "nesting", "kind"], ["program", "nesting", "kind"], []⟩
def d_46 : Dd := ⟨74, "plan", ["program", "nesting", "kind"], ["program", "nesting", "kind"], []⟩
def d_47 : Dd := ⟨75, "is_plan", ["program", "nesting", "kind", "value"], ["program", "nesting", "kind", "value"], []⟩
def d_48 : Dd := ⟨77, "_law_source", ["_law_script", "_law_k", "_law_cell"], ["_law_script", "_law_k"], []⟩
def d_49 : Dd := ⟨78, "_law_draw", ["_law_source_here", "_law_many_here", "_law_rest", "_law_wide"], ["_law_source_here", "_law_many_here"], []⟩
def d_50 : Dd := ⟨79, "_law_choice", ["_law_source_here", "_law_some"], ["_law_source_here", "_law_some"], []⟩
def d_51 : Dd := ⟨80, "_law_from", ["_law_value", "_law_low", "_law_high"], ["_law_value", "_law_low", "_law_high"], []⟩
def d_52 : Dd := ⟨81, "_law_truly", ["_law_found", "_law_due"], ["_law_found", "_law_due"], []⟩
def d_53 : Dd := ⟨82, "_law_names", ["_law_e", "_law_some", "_law_words", "_law_word", "_law_good"], ["_law_e"], []⟩
def d_54 : Dd := ⟨83, "_law_size", ["_law_row", "_law_total", "_law_stand", "_law_inner"], ["_law_row"], []⟩
def d_55 : Dd := ⟨84, "_law_deep", ["_law_row", "_law_stand", "_law_inner"], ["_law_row"], []⟩
def d_56 : Dd := ⟨85, "_law_nesting", ["_law_source_here", "_law_stands", "_law_most", "_law_found", "_law_turn"], ["_law_source_here", "_law_stands", "_law_most"], []⟩
def d_57 : Dd := ⟨86, "_law_put_in", ["_law_source_here", "_law_row", "_law_stand", "_law_deep_here", "_law_at", "_law_inner"], ["_law_source_here", "_law_row", "_law_stand", "_law_deep_here"], []⟩
def d_58 : Dd := ⟨87, "_law_kind", ["_law_source_here", "_law_stands", "_law_most", "_law_many_here", "_law_lines", "_law_here", "_law_row", "_law_stand", "_law_inner", "_law_at"], ["_law_source_here", "_law_stands", "_law_most"], ["_law_lines", "_law_row"]⟩
def d_59 : Dd := ⟨88, "_law_end", ["_law_table", "_law_row", "_law_here", "_law_stand", "_law_inner"], ["_law_table", "_law_row"], []⟩
def d_60 : Dd := ⟨89, "_law_is_of", ["_law_kind_here", "_law_row"], ["_law_kind_here", "_law_row"], []⟩
def d_61 : Dd := ⟨90, "_law_marks", ["_law_source_here", "_law_stands", "_law_look", "_law_new", "_law_stand", "_law_here"], ["_law_source_here", "_law_stands"], ["_law_new"]⟩
def d_62 : Dd := ⟨91, "_law_step", ["_law_source_here", "_law_stands", "_law_word", "_law_which", "_law_many_here", "_law_lines", "_law_note", "_law_stand"], ["_law_source_here", "_law_stands"], ["_law_lines"]⟩
def d_63 : Dd := ⟨92, "_law_stepped", ["_law_step_here", "_law_row", "_law_note", "_law_word", "_law_found", "_law_stand", "_law_inner", "_law_fresh", "_law_later", "_law_box", "_law_mine", "_law_one"], ["_law_step_here", "_law_row", "_law_note"], []⟩
def d_64 : Dd := ⟨93, "_law_known", ["_law_even", "_law_some", "_law_bare"], [], []⟩
def d_65 : Dd := ⟨94, "_law_answer", ["_law_call", "_law_found", "_law_e"], ["_law_call"], []⟩
def d_66 : Dd := ⟨95, "_law_part", ["_law_source_here", "_law_stands", "_law_levels", "_law_way", "_law_turn", "_law_many_here", "_law_one", "_law_two"], ["_law_source_here", "_law_stands", "_law_levels"], []⟩
def d_67 : Dd := ⟨96, "_law_within", ["_law_part_here"], ["_law_part_here"], []⟩
def d_68 : Dd := ⟨97, "_law_many", ["_law_part_here", "_law_inner"], ["_law_part_here"], []⟩
def d_69 : Dd := ⟨98, "_law_program", ["_law_source_here", "_law_stands", "_law_levels", "_law_turn", "_law_part_here"], ["_law_source_here", "_law_stands", "_law_levels"], []⟩
def d_70 : Dd := ⟨99, "_law_twice", ["_law_which", "_law_row", "_law_total", "_law_stand", "_law_inner"], ["_law_which", "_law_row"], []⟩
def d_71 : Dd := ⟨100, "_law_done", ["_law_step_here", "_law_row", "_law_found"], ["_law_step_here", "_law_row"], []⟩
def d_72 : Dd := ⟨101, "_law_ends", ["_law_todo", "_law_row", "_law_picks", "_law_part_here", "_law_word", "_law_one", "_law_two"], ["_law_todo", "_law_row", "_law_picks"], []⟩
def d_73 : Dd := ⟨102, "_law_wins", ["_law_todo", "_law_row", "_law_goal", "_law_way", "_law_part_here", "_law_word", "_law_one", "_law_two", "_law_mine"], ["_law_todo", "_law_row", "_law_goal", "_law_way"], []⟩
def d_74 : Dd := ⟨103, "_law_programs", ["_law_drop", "_law_wrap", "_law_some", "_law_asks"], [], []⟩
def d_75 : Dd := ⟨104, "_law_sample", [], [], []⟩
def d_76 : Dd := ⟨105, "_law_lively", ["_law_source_here", "_law_stands", "_law_most", "_law_turn", "_law_found"], ["_law_source_here", "_law_stands", "_law_most"], []⟩
def d_77 : Dd := ⟨106, "_law_is_plan", ["_law_todo", "_law_row", "_law_goal", "_law_value", "_law_part_here", "_law_word", "_law_good"], ["_law_todo", "_law_row", "_law_goal", "_law_value"], []⟩
def d_78 : Dd := ⟨107, "_law_bent", ["_law_source_here", "_law_value", "_law_some", "_law_at"], ["_law_source_here", "_law_value"], []⟩
def d_79 : Dd := ⟨108, "_law_right", ["_law_source_here", "_law_program_here", "_law_row", "_law_goal", "_law_todo", "_law_ends_here", "_law_picks", "_law_end_here", "_law_some", "_law_told", "_law_value", "_law_turn"], ["_law_source_here", "_law_program_here", "_law_row", "_law_goal"], []⟩
def d_80 : Dd := ⟨109, "law", ["_law_script", "_law_source_here", "_law_program_here", "_law_turn", "_law_u", "_law_v", "_law_y", "_law_o", "_law_z", "_law_k", "_law_h", "_law_f", "_law_row", "_law_one", "_law_goal", "_law_far", "_law_long"], ["_law_script"], []⟩
def dds : List Dd := [d_0, d_1, d_2, d_3, d_4, d_5, d_6, d_7, d_8, d_9, d_10, d_11, d_12, d_13, d_14, d_15, d_16, d_17, d_18, d_19, d_20, d_21, d_22, d_23, d_24] ++ [d_25, d_26, d_27, d_28, d_29, d_30, d_31, d_32, d_33, d_34, d_35, d_36, d_37, d_38, d_39, d_40, d_41, d_42, d_43, d_44, d_45, d_46, d_47, d_48, d_49] ++ [d_50, d_51, d_52, d_53, d_54, d_55, d_56, d_57, d_58, d_59, d_60, d_61, d_62, d_63, d_64, d_65, d_66, d_67, d_68, d_69, d_70, d_71, d_72, d_73, d_74] ++ [d_75, d_76, d_77, d_78, d_79, d_80]
def Dd.body (d : Dd) : Option Ss := cSs gx 100 (sxOf d.N d.own d.lam d.drop (topS d.at_)) (defBody (topS d.at_))
/-- the method that is walked -/
def tmI : Stmt := match topS 11 with
  | .ClassDef _ _ _ (f :: _) .. => f
  | s => s
end Nk
end
section
set_option Elab.async false
set_option linter.all false
set_option maxRecDepth 100000
/-! the bodies in the small language -/
namespace Nk
open PySem L2

/-- is_whole -/
def b_0 : Ss :=
  (.cons (.rtn (.and (.o1 .isint (.var 0)) (.and (.not (.o1 .isbool (.var 0))) (.chain .le .le (.var 1) (.var 0) (.var 2)))))
  .nil)
/-- shape_of -/
def b_1 : Ss :=
  (.cons (.ite (.or (.not (.o1 .istup (.var 1))) (.and (.o2 .ne (.var 1) (.tup .nil)) (.o2 .eq (.var 2) (.cst (.int 0)))))
    (.cons (.rtn (.cst .non))
  .nil)
    .nil)
  (.cons (.asg 3 (.cst (.int 0)))
  (.cons (.for_ (.nm 4) (.seq (.var 1)) (.cons (.ite (.or (.not (.o1 .istup (.var 4))) (.or (.o2 .ne (.o1 .len (.var 4)) (.cst (.int 2))) (.not (.call 0 (.cons (.o2 .ix (.var 4) (.cst (.int 0))) (.cons (.cst (.int 0)) (.cons (.o2 .sub (.var 0) (.cst (.int 1))) .nil)))))))
    (.cons (.rtn (.cst .non))
  .nil)
    .nil)
  (.cons (.asg 5 (.call 1 (.cons (.var 0) (.cons (.o2 .ix (.var 4) (.cst (.int 1))) (.cons (.o2 .sub (.var 2) (.cst (.int 1))) .nil)))))
  (.cons (.ite (.or (.o1 .isnone (.var 5)) (.o2 .gt (.o2 .add (.o2 .add (.var 3) (.var 5)) (.cst (.int 1))) (.cst (.int 60))))
    (.cons (.rtn (.cst .non))
  .nil)
    .nil)
  (.cons (.asg 3 (.o2 .add (.o2 .add (.var 3) (.var 5)) (.cst (.int 1))))
  .nil)))))
  (.cons (.rtn (.var 3))
  .nil))))
/-- has_nesting -/
def b_2 : Ss :=
  (.cons (.rtn (.o1 .notnone (.call 1 (.cons (.var 0) (.cons (.var 1) (.cons (.cst (.int 12)) .nil))))))
  .nil)
/-- boxes_in -/
def b_3 : Ss :=
  (.cons (.rtn (.o1 .sum (.comp (.o2 .add (.cst (.int 1)) (.call 3 (.cons (.var 2) .nil))) (.tup [1, 2]) (.seq (.var 0)) .nil [1, 2])))
  .nil)
/-- need_nesting -/
def b_4 : Ss :=
  (.cons (.ite (.not (.call 2 (.cons (.var 0) (.cons (.var 1) .nil))))
    (.cons (.raise .nesting)
  .nil)
    .nil)
  .nil)
/-- is_rising -/
def b_5 : Ss :=
  (.cons (.ite (.or (.not (.o1 .istup (.var 0))) (.o2 .ne (.comp (.var 2) (.nm 2) (.seq (.var 0)) (.cons (.not (.call 0 (.cons (.var 2) (.cons (.cst (.int 0)) (.cons (.var 1) .nil))))) .nil) [2]) (.lst .nil)))
    (.cons (.rtn (.cst (.bl false)))
  .nil)
    .nil)
  (.cons (.rtn (.o1 .all (.comp (.o2 .lt (.var 2) (.var 3)) (.tup [2, 3]) (.zip (.var 0) (.slice (.var 0) (.some (.cst (.int 1))) .none)) .nil [2, 3])))
  .nil))
/-- is_table -/
def b_6 : Ss :=
  (.cons (.ite (.or (.not (.o1 .istup (.var 1))) (.not (.chain .le .le (.cst (.int 1)) (.o1 .len (.var 1)) (.var 2))))
    (.cons (.rtn (.cst (.bl false)))
  .nil)
    .nil)
  (.cons (.asg 3 (.o1 .len (.var 1)))
  (.cons (.for_ (.nm 4) (.seq (.var 1)) (.cons (.ite (.or (.not (.o1 .istup (.var 4))) (.o2 .ne (.o1 .len (.var 4)) (.var 0)))
    (.cons (.rtn (.cst (.bl false)))
  .nil)
    .nil)
  (.cons (.for_ (.nm 5) (.seq (.var 4)) (.cons (.ite (.or (.not (.o1 .istup (.var 5))) (.o2 .ne (.o1 .len (.var 5)) (.var 3)))
    (.cons (.rtn (.cst (.bl false)))
  .nil)
    .nil)
  (.cons (.ite (.o2 .ne (.comp (.var 6) (.nm 6) (.seq (.var 5)) (.cons (.not (.call 0 (.cons (.var 6) (.cons (.cst (.int 0)) (.cons (.o2 .sub (.var 3) (.cst (.int 1))) .nil))))) .nil) [6]) (.lst .nil))
    (.cons (.rtn (.cst (.bl false)))
  .nil)
    .nil)
  .nil)))
  .nil)))
  (.cons (.rtn (.cst (.bl true)))
  .nil))))
/-- has_kind -/
def b_7 : Ss :=
  (.cons (.ite (.or (.not (.o1 .istup (.var 0))) (.or (.o2 .ne (.o1 .len (.var 0)) (.cst (.int 3))) (.not (.call 0 (.cons (.o2 .ix (.var 0) (.cst (.int 0))) (.cons (.cst (.int 2)) (.cons (.cst (.int 3)) .nil)))))))
    (.cons (.rtn (.cst (.bl false)))
  .nil)
    .nil)
  (.cons (.rtn (.and (.call 6 (.cons (.o2 .ix (.var 0) (.cst (.int 0))) (.cons (.o2 .ix (.var 0) (.cst (.int 1))) (.cons (.cst (.int 24)) .nil)))) (.call 5 (.cons (.o2 .ix (.var 0) (.cst (.int 2))) (.cons (.o2 .sub (.o1 .len (.o2 .ix (.var 0) (.cst (.int 1)))) (.cst (.int 1))) .nil)))))
  .nil))
/-- need_kind -/
def b_8 : Ss :=
  (.cons (.ite (.not (.call 7 (.cons (.var 0) .nil)))
    (.cons (.raise .kind)
  .nil)
    .nil)
  .nil)
/-- row_end -/
def b_9 : Ss :=
  (.cons (.asg 2 (.cst (.int 0)))
  (.cons (.for_ (.tup [3, 4]) (.seq (.var 1)) (.cons (.asg 2 (.o2 .ix (.o2 .ix (.o2 .ix (.var 0) (.var 2)) (.var 3)) (.call 9 (.cons (.var 0) (.cons (.var 4) .nil)))))
  .nil))
  (.cons (.rtn (.var 2))
  .nil)))
/-- is_of -/
def b_10 : Ss :=
  (.cons (.rtn (.o2 .isin (.call 9 (.cons (.o2 .ix (.var 0) (.cst (.int 1))) (.cons (.var 1) .nil))) (.o2 .ix (.var 0) (.cst (.int 2)))))
  .nil)
-- 11 first_rows: by hand
-- 12 classes_of: by hand
-- 13 least_of_table: by hand
/-- least_of -/
def b_14 : Ss :=
  (.cons (.rtn (.call 13 (.cons (.o2 .ix (.var 0) (.cst (.int 0))) (.cons (.o2 .ix (.var 0) (.cst (.int 1))) (.cons (.o2 .ix (.var 0) (.cst (.int 2))) .nil)))))
  .nil)
/-- other_of -/
def b_15 : Ss :=
  (.cons (.rtn (.call 14 (.cons (.tup (.cons (.o2 .ix (.var 0) (.cst (.int 0))) (.cons (.o2 .ix (.var 0) (.cst (.int 1))) (.cons (.o1 .tuple (.comp (.var 1) (.nm 1) (.range (.o1 .len (.o2 .ix (.var 0) (.cst (.int 1))))) (.cons (.o2 .notin (.var 1) (.o2 .ix (.var 0) (.cst (.int 2)))) .nil) [1])) .nil)))) .nil)))
  .nil)
/-- other -/
def b_16 : Ss :=
  (.cons (.exp (.call 8 (.cons (.var 0) .nil)))
  (.cons (.rtn (.call 15 (.cons (.var 0) .nil)))
  .nil))
/-- is_marks -/
def b_17 : Ss :=
  (.cons (.ite (.or (.not (.o1 .istup (.var 1))) (.o2 .ne (.o1 .len (.var 1)) (.var 0)))
    (.cons (.rtn (.cst (.bl false)))
  .nil)
    .nil)
  (.cons (.for_ (.nm 3) (.seq (.var 1)) (.cons (.ite (.or (.not (.o1 .istup (.var 3))) (.o2 .ne (.o1 .len (.var 3)) (.var 2)))
    (.cons (.rtn (.cst (.bl false)))
  .nil)
    .nil)
  (.cons (.ite (.o2 .ne (.comp (.var 4) (.nm 4) (.seq (.var 3)) (.cons (.not (.call 0 (.cons (.var 4) (.cons (.cst (.int 0)) (.cons (.o2 .sub (.var 0) (.cst (.int 1))) .nil))))) .nil) [4]) (.lst .nil))
    (.cons (.rtn (.cst (.bl false)))
  .nil)
    .nil)
  .nil)))
  (.cons (.rtn (.cst (.bl true)))
  .nil)))
/-- is_notes -/
def b_18 : Ss :=
  (.cons (.ite (.or (.not (.o1 .istup (.var 1))) (.not (.chain .le .le (.cst (.int 1)) (.o1 .len (.var 1)) (.cst (.int 2)))))
    (.cons (.rtn (.cst (.bl false)))
  .nil)
    .nil)
  (.cons (.for_ (.nm 2) (.seq (.var 1)) (.cons (.ite (.or (.not (.o1 .istup (.var 2))) (.o2 .ne (.o1 .len (.var 2)) (.var 0)))
    (.cons (.rtn (.cst (.bl false)))
  .nil)
    .nil)
  (.cons (.for_ (.nm 3) (.seq (.var 2)) (.cons (.ite (.or (.not (.o1 .istup (.var 3))) (.o2 .ne (.o1 .len (.var 3)) (.cst (.int 2))))
    (.cons (.rtn (.cst (.bl false)))
  .nil)
    .nil)
  (.cons (.ite (.or (.not (.call 0 (.cons (.o2 .ix (.var 3) (.cst (.int 0))) (.cons (.cst (.int 0)) (.cons (.o2 .sub (.var 0) (.cst (.int 1))) .nil))))) (.not (.call 0 (.cons (.o2 .ix (.var 3) (.cst (.int 1))) (.cons (.cst (.int 0)) (.cons (.o2 .sub (.o1 .len (.var 1)) (.cst (.int 1))) .nil))))))
    (.cons (.rtn (.cst (.bl false)))
  .nil)
    .nil)
  .nil)))
  .nil)))
  (.cons (.rtn (.cst (.bl true)))
  .nil)))
/-- has_step -/
def b_19 : Ss :=
  (.cons (.ite (.or (.not (.o1 .istup (.var 1))) (.or (.not (.chain .le .le (.cst (.int 1)) (.o1 .len (.var 1)) (.cst (.int 3)))) (.not (.o1 .isstr (.o2 .ix (.var 1) (.cst (.int 0)))))))
    (.cons (.rtn (.cst (.bl false)))
  .nil)
    .nil)
  (.cons (.asg 2 (.o2 .ix (.var 1) (.cst (.int 0))))
  (.cons (.ite (.o2 .eq (.var 2) (.cst (.str .turn)))
    (.cons (.rtn (.o2 .eq (.o1 .len (.var 1)) (.cst (.int 1))))
  .nil)
    .nil)
  (.cons (.ite (.o2 .isin (.var 2) (.tup (.cons (.cst (.str .drop)) (.cons (.cst (.str .open_)) (.cons (.cst (.str .double)) .nil)))))
    (.cons (.rtn (.and (.o2 .eq (.o1 .len (.var 1)) (.cst (.int 2))) (.call 0 (.cons (.o2 .ix (.var 1) (.cst (.int 1))) (.cons (.cst (.int 0)) (.cons (.o2 .sub (.var 0) (.cst (.int 1))) .nil))))))
  .nil)
    .nil)
  (.cons (.ite (.o2 .eq (.var 2) (.cst (.str .about)))
    (.cons (.rtn (.and (.o2 .eq (.o1 .len (.var 1)) (.cst (.int 2))) (.call 18 (.cons (.var 0) (.cons (.o2 .ix (.var 1) (.cst (.int 1))) .nil)))))
  .nil)
    .nil)
  (.cons (.ite (.o2 .ne (.o1 .len (.var 1)) (.cst (.int 3)))
    (.cons (.rtn (.cst (.bl false)))
  .nil)
    .nil)
  (.cons (.ite (.o2 .eq (.var 2) (.cst (.str .mark)))
    (.cons (.rtn (.and (.call 6 (.cons (.var 0) (.cons (.o2 .ix (.var 1) (.cst (.int 1))) (.cons (.cst (.int 3)) .nil)))) (.call 17 (.cons (.var 0) (.cons (.o2 .ix (.var 1) (.cst (.int 2))) (.cons (.o1 .len (.o2 .ix (.var 1) (.cst (.int 1)))) .nil))))))
  .nil)
    .nil)
  (.cons (.ite (.o2 .eq (.var 2) (.cst (.str .wrap)))
    (.cons (.rtn (.and (.call 0 (.cons (.o2 .ix (.var 1) (.cst (.int 1))) (.cons (.cst (.int 0)) (.cons (.o2 .sub (.var 0) (.cst (.int 1))) .nil)))) (.call 0 (.cons (.o2 .ix (.var 1) (.cst (.int 2))) (.cons (.cst (.int 0)) (.cons (.o2 .sub (.var 0) (.cst (.int 1))) .nil))))))
  .nil)
    .nil)
  (.cons (.rtn (.and (.o2 .eq (.var 2) (.cst (.str .only))) (.and (.o1 .isstr (.o2 .ix (.var 1) (.cst (.int 1)))) (.and (.o2 .isin (.o2 .ix (.var 1) (.cst (.int 1))) (.tup (.cons (.cst (.str .left)) (.cons (.cst (.str .right)) .nil)))) (.call 0 (.cons (.o2 .ix (.var 1) (.cst (.int 2))) (.cons (.cst (.int 0)) (.cons (.o2 .sub (.var 0) (.cst (.int 1))) .nil))))))))
  .nil)))))))))
/-- marked -/
def b_20 : Ss :=
  (.cons (.rtn (.o1 .tuple (.comp (.tup (.cons (.o2 .ix (.o2 .ix (.var 1) (.var 3)) (.call 9 (.cons (.var 0) (.cons (.var 4) .nil)))) (.cons (.call 20 (.cons (.var 0) (.cons (.var 1) (.cons (.var 4) .nil)))) .nil))) (.tup [3, 4]) (.seq (.var 2)) .nil [3, 4])))
  .nil)
/-- noted -/
def b_21 : Ss :=
  (.cons (.asg 3 (.tup .nil))
  (.cons (.for_ (.tup [4, 5]) (.seq (.var 2)) (.cons (.asgT [6, 7] (.o2 .ix (.o2 .ix (.var 0) (.var 1)) (.var 4)))
  (.cons (.asg 3 (.o2 .add (.var 3) (.tup (.cons (.tup (.cons (.var 6) (.cons (.call 21 (.cons (.var 0) (.cons (.var 7) (.cons (.var 5) .nil)))) .nil))) .nil))))
  .nil)))
  (.cons (.rtn (.var 3))
  .nil)))
/-- dropped -/
def b_22 : Ss :=
  (.cons (.rtn (.o1 .tuple (.comp (.tup (.cons (.var 2) (.cons (.call 22 (.cons (.var 0) (.cons (.var 3) .nil))) .nil))) (.tup [2, 3]) (.seq (.var 1)) (.cons (.o2 .ne (.var 2) (.var 0)) .nil) [2, 3])))
  .nil)
/-- opened -/
def b_23 : Ss :=
  (.cons (.asg 2 (.tup .nil))
  (.cons (.for_ (.tup [3, 4]) (.seq (.var 1)) (.cons (.asg 5 (.call 23 (.cons (.var 0) (.cons (.var 4) .nil))))
  (.cons (.asg 2 (.o2 .add (.var 2) (.ite (.o2 .eq (.var 3) (.var 0)) (.var 5) (.tup (.cons (.tup (.cons (.var 3) (.cons (.var 5) .nil))) .nil)))))
  .nil)))
  (.cons (.rtn (.var 2))
  .nil)))
/-- wrapped -/
def b_24 : Ss :=
  (.cons (.asg 3 (.tup .nil))
  (.cons (.for_ (.tup [4, 5]) (.seq (.var 2)) (.cons (.asg 6 (.tup (.cons (.var 4) (.cons (.call 24 (.cons (.var 0) (.cons (.var 1) (.cons (.var 5) .nil)))) .nil))))
  (.cons (.asg 3 (.o2 .add (.var 3) (.ite (.o2 .eq (.var 4) (.var 0)) (.tup (.cons (.tup (.cons (.var 1) (.cons (.tup (.cons (.var 6) .nil)) .nil))) .nil)) (.tup (.cons (.var 6) .nil)))))
  .nil)))
  (.cons (.rtn (.var 3))
  .nil)))
/-- doubled -/
def b_25 : Ss :=
  (.cons (.asg 2 (.tup .nil))
  (.cons (.for_ (.tup [3, 4]) (.seq (.var 1)) (.cons (.asg 5 (.tup (.cons (.var 3) (.cons (.call 25 (.cons (.var 0) (.cons (.var 4) .nil))) .nil))))
  (.cons (.asg 2 (.o2 .add (.var 2) (.ite (.o2 .eq (.var 3) (.var 0)) (.tup (.cons (.var 5) (.cons (.var 5) .nil))) (.tup (.cons (.var 5) .nil)))))
  .nil)))
  (.cons (.rtn (.var 2))
  .nil)))
/-- turned -/
def b_26 : Ss :=
  (.cons (.rtn (.o1 .tuple (.comp (.tup (.cons (.var 1) (.cons (.call 26 (.cons (.var 2) .nil)) .nil))) (.tup [1, 2]) (.seq (.o1 .rev (.var 0))) .nil [1, 2])))
  .nil)
/-- only_one -/
def b_27 : Ss :=
  (.cons (.asg 3 (.comp (.var 4) (.tup [4, 5]) (.enum (.var 2)) (.cons (.o2 .eq (.o2 .ix (.var 5) (.cst (.int 0))) (.var 1)) .nil) [4, 5]))
  (.cons (.asg 6 (.ite (.o2 .eq (.var 0) (.cst (.str .left))) (.slice (.var 3) .none (.some (.cst (.int 1)))) (.slice (.var 3) (.some (.o1 .neg (.cst (.int 1)))) .none)))
  (.cons (.asg 7 (.comp (.var 5) (.tup [4, 5]) (.enum (.var 2)) (.cons (.or (.o2 .notin (.var 4) (.var 3)) (.o2 .isin (.var 4) (.var 6))) .nil) [4, 5]))
  (.cons (.rtn (.o1 .tuple (.comp (.tup (.cons (.var 8) (.cons (.call 27 (.cons (.var 0) (.cons (.var 1) (.cons (.var 9) .nil)))) .nil))) (.tup [8, 9]) (.seq (.var 7)) .nil [8, 9])))
  .nil))))
/-- stepped -/
def b_28 : Ss :=
  (.cons (.asg 2 (.o2 .ix (.var 0) (.cst (.int 0))))
  (.cons (.ite (.o2 .eq (.var 2) (.cst (.str .mark)))
    (.cons (.rtn (.call 20 (.cons (.o2 .ix (.var 0) (.cst (.int 1))) (.cons (.o2 .ix (.var 0) (.cst (.int 2))) (.cons (.var 1) .nil)))))
  .nil)
    .nil)
  (.cons (.ite (.o2 .eq (.var 2) (.cst (.str .about)))
    (.cons (.rtn (.call 21 (.cons (.o2 .ix (.var 0) (.cst (.int 1))) (.cons (.cst (.int 0)) (.cons (.var 1) .nil)))))
  .nil)
    .nil)
  (.cons (.ite (.o2 .eq (.var 2) (.cst (.str .drop)))
    (.cons (.rtn (.call 22 (.cons (.o2 .ix (.var 0) (.cst (.int 1))) (.cons (.var 1) .nil))))
  .nil)
    .nil)
  (.cons (.ite (.o2 .eq (.var 2) (.cst (.str .open_)))
    (.cons (.rtn (.call 23 (.cons (.o2 .ix (.var 0) (.cst (.int 1))) (.cons (.var 1) .nil))))
  .nil)
    .nil)
  (.cons (.ite (.o2 .eq (.var 2) (.cst (.str .wrap)))
    (.cons (.rtn (.call 24 (.cons (.o2 .ix (.var 0) (.cst (.int 1))) (.cons (.o2 .ix (.var 0) (.cst (.int 2))) (.cons (.var 1) .nil)))))
  .nil)
    .nil)
  (.cons (.ite (.o2 .eq (.var 2) (.cst (.str .double)))
    (.cons (.rtn (.call 25 (.cons (.o2 .ix (.var 0) (.cst (.int 1))) (.cons (.var 1) .nil))))
  .nil)
    .nil)
  (.cons (.rtn (.ite (.o2 .eq (.var 2) (.cst (.str .turn))) (.call 26 (.cons (.var 1) .nil)) (.call 27 (.cons (.o2 .ix (.var 0) (.cst (.int 1))) (.cons (.o2 .ix (.var 0) (.cst (.int 2))) (.cons (.var 1) .nil))))))
  .nil))))))))
/-- doubled_boxes -/
def b_29 : Ss :=
  (.cons (.rtn (.o1 .sum (.comp (.o2 .mul (.o2 .add (.cst (.int 1)) (.call 29 (.cons (.var 0) (.cons (.var 3) .nil)))) (.ite (.o2 .eq (.var 2) (.var 0)) (.cst (.int 2)) (.cst (.int 1)))) (.tup [2, 3]) (.seq (.var 1)) .nil [2, 3])))
  .nil)
/-- ran -/
def b_30 : Ss :=
  (.cons (.for_ (.nm 2) (.seq (.o2 .ix (.var 0) (.cst (.int 1)))) (.cons (.ite (.and (.o2 .eq (.o2 .ix (.var 2) (.cst (.int 0))) (.cst (.str .double))) (.o2 .gt (.call 29 (.cons (.o2 .ix (.var 2) (.cst (.int 1))) (.cons (.var 1) .nil))) (.cst (.int 5000))))
    (.cons (.raiseM (.cst (.int 5000)))
  .nil)
    .nil)
  (.cons (.asg 1 (.call 28 (.cons (.var 2) (.cons (.var 1) .nil))))
  (.cons (.ite (.o2 .gt (.call 3 (.cons (.var 1) .nil)) (.cst (.int 5000)))
    (.cons (.raiseM (.cst (.int 5000)))
  .nil)
    .nil)
  .nil))))
  (.cons (.rtn (.var 1))
  .nil))
/-- inner_of -/
def b_31 : Ss :=
  (.cons (.ite (.o2 .eq (.o2 .ix (.var 0) (.cst (.int 0))) (.cst (.str .row)))
    (.cons (.rtn (.o2 .ix (.var 0) (.cst (.int 1))))
  .nil)
    .nil)
  (.cons (.ite (.o2 .eq (.o2 .ix (.var 0) (.cst (.int 0))) (.cst (.str .if_)))
    (.cons (.rtn (.slice (.var 0) (.some (.cst (.int 2))) .none))
  .nil)
    .nil)
  (.cons (.ite (.o2 .eq (.o2 .ix (.var 0) (.cst (.int 0))) (.cst (.str .times)))
    (.cons (.rtn (.slice (.var 0) (.some (.cst (.int 2))) .none))
  .nil)
    .nil)
  (.cons (.rtn (.ite (.o2 .isin (.o2 .ix (.var 0) (.cst (.int 0))) (.tup (.cons (.cst (.str .ours)) (.cons (.cst (.str .theirs)) .nil)))) (.slice (.var 0) (.some (.cst (.int 1))) .none) (.tup .nil)))
  .nil))))
/-- are_parts -/
def b_32 : Ss :=
  (.cons (.rtn (.o1 .all (.comp (.call 33 (.cons (.var 0) (.cons (.var 3) (.cons (.var 2) .nil)))) (.nm 3) (.seq (.var 1)) .nil [3])))
  .nil)
/-- has_part -/
def b_33 : Ss :=
  (.cons (.ite (.or (.o2 .eq (.var 2) (.cst (.int 0))) (.or (.not (.o1 .istup (.var 1))) (.or (.o2 .eq (.var 1) (.tup .nil)) (.not (.o1 .isstr (.o2 .ix (.var 1) (.cst (.int 0))))))))
    (.cons (.rtn (.cst (.bl false)))
  .nil)
    .nil)
  (.cons (.par [3, 4] (.cons (.o2 .ix (.var 1) (.cst (.int 0))) (.cons (.o1 .len (.var 1)) .nil)))
  (.cons (.ite (.o2 .eq (.var 3) (.cst (.str .do_)))
    (.cons (.rtn (.and (.o2 .eq (.var 4) (.cst (.int 2))) (.call 19 (.cons (.var 0) (.cons (.o2 .ix (.var 1) (.cst (.int 1))) .nil)))))
  .nil)
    .nil)
  (.cons (.ite (.o2 .eq (.var 3) (.cst (.str .row)))
    (.cons (.asg 5 (.and (.o2 .eq (.var 4) (.cst (.int 2))) (.and (.o1 .istup (.o2 .ix (.var 1) (.cst (.int 1)))) (.o2 .le (.o1 .len (.o2 .ix (.var 1) (.cst (.int 1)))) (.cst (.int 4))))))
  (.cons (.rtn (.and (.var 5) (.call 32 (.cons (.var 0) (.cons (.o2 .ix (.var 1) (.cst (.int 1))) (.cons (.o2 .sub (.var 2) (.cst (.int 1))) .nil))))))
  .nil))
    .nil)
  (.cons (.ite (.o2 .eq (.var 3) (.cst (.str .if_)))
    (.cons (.asg 5 (.and (.o2 .eq (.var 4) (.cst (.int 4))) (.and (.call 7 (.cons (.o2 .ix (.var 1) (.cst (.int 1))) .nil)) (.o2 .eq (.o2 .ix (.o2 .ix (.var 1) (.cst (.int 1))) (.cst (.int 0))) (.var 0)))))
  (.cons (.rtn (.and (.var 5) (.call 32 (.cons (.var 0) (.cons (.slice (.var 1) (.some (.cst (.int 2))) .none) (.cons (.o2 .sub (.var 2) (.cst (.int 1))) .nil))))))
  .nil))
    .nil)
  (.cons (.ite (.o2 .eq (.var 3) (.cst (.str .times)))
    (.cons (.asg 5 (.and (.o2 .eq (.var 4) (.cst (.int 3))) (.call 0 (.cons (.o2 .ix (.var 1) (.cst (.int 1))) (.cons (.cst (.int 0)) (.cons (.cst (.int 1000000000000000000000000000000)) .nil))))))
  (.cons (.rtn (.and (.var 5) (.call 32 (.cons (.var 0) (.cons (.slice (.var 1) (.some (.cst (.int 2))) .none) (.cons (.o2 .sub (.var 2) (.cst (.int 1))) .nil))))))
  .nil))
    .nil)
  (.cons (.rtn (.and (.o2 .isin (.var 3) (.tup (.cons (.cst (.str .ours)) (.cons (.cst (.str .theirs)) .nil)))) (.and (.o2 .eq (.var 4) (.cst (.int 3))) (.call 32 (.cons (.var 0) (.cons (.slice (.var 1) (.some (.cst (.int 1))) .none) (.cons (.o2 .sub (.var 2) (.cst (.int 1))) .nil)))))))
  .nil)))))))
/-- many_parts -/
def b_34 : Ss :=
  (.cons (.rtn (.o2 .add (.cst (.int 1)) (.o1 .sum (.comp (.call 34 (.cons (.var 1) .nil)) (.nm 1) (.seq (.call 31 (.cons (.var 0) .nil))) .nil [1]))))
  .nil)
/-- has_program -/
def b_35 : Ss :=
  (.cons (.ite (.or (.not (.o1 .istup (.var 0))) (.or (.o2 .ne (.o1 .len (.var 0)) (.cst (.int 2))) (.not (.call 0 (.cons (.o2 .ix (.var 0) (.cst (.int 0))) (.cons (.cst (.int 2)) (.cons (.cst (.int 3)) .nil)))))))
    (.cons (.rtn (.cst (.bl false)))
  .nil)
    .nil)
  (.cons (.rtn (.and (.call 33 (.cons (.o2 .ix (.var 0) (.cst (.int 0))) (.cons (.o2 .ix (.var 0) (.cst (.int 1))) (.cons (.cst (.int 5)) .nil)))) (.o2 .le (.call 34 (.cons (.o2 .ix (.var 0) (.cst (.int 1))) .nil)) (.cst (.int 12)))))
  .nil))
/-- need_program -/
def b_36 : Ss :=
  (.cons (.ite (.not (.call 35 (.cons (.var 0) .nil)))
    (.cons (.raise .program)
  .nil)
    .nil)
  .nil)
/-- unfolded -/
def b_37 : Ss :=
  (.cons (.asg 3 (.o2 .ix (.var 0) (.cst (.int 0))))
  (.cons (.ite (.o2 .eq (.var 3) (.cst (.str .row)))
    (.cons (.rtn (.o1 .rev (.o2 .ix (.var 0) (.cst (.int 1)))))
  .nil)
    .nil)
  (.cons (.ite (.o2 .eq (.var 3) (.cst (.str .if_)))
    (.cons (.rtn (.ite (.call 10 (.cons (.o2 .ix (.var 0) (.cst (.int 1))) (.cons (.var 1) .nil))) (.tup (.cons (.o2 .ix (.var 0) (.cst (.int 2))) .nil)) (.tup (.cons (.o2 .ix (.var 0) (.cst (.int 3))) .nil))))
  .nil)
    .nil)
  (.cons (.ite (.and (.o2 .eq (.var 3) (.cst (.str .again))) (.o2 .eq (.o2 .ix (.var 0) (.cst (.int 3))) (.var 2)))
    (.cons (.rtn (.tup .nil))
  .nil)
    .nil)
  (.cons (.rtn (.ite (.o2 .gt (.o2 .ix (.var 0) (.cst (.int 1))) (.cst (.int 0))) (.tup (.cons (.tup (.cons (.cst (.str .again)) (.cons (.o2 .sub (.o2 .ix (.var 0) (.cst (.int 1))) (.cst (.int 1))) (.cons (.o2 .ix (.var 0) (.cst (.int 2))) (.cons (.var 2) .nil))))) (.cons (.o2 .ix (.var 0) (.cst (.int 2))) .nil))) (.tup .nil)))
  .nil)))))
/-- gone_on -/
def b_38 : Ss :=
  (.cons (.whl (.o2 .ne (.var 2) (.tup .nil)) (.cons (.par [4, 2] (.cons (.o2 .ix (.var 2) (.o1 .neg (.cst (.int 1)))) (.cons (.slice (.var 2) .none (.some (.o1 .neg (.cst (.int 1))))) .nil)))
  (.cons (.ite (.o2 .isin (.o2 .ix (.var 4) (.cst (.int 0))) (.tup (.cons (.cst (.str .ours)) (.cons (.cst (.str .theirs)) .nil))))
    (.cons (.rtn (.tup (.cons (.var 1) (.cons (.var 2) (.cons (.var 4) (.cons (.tup (.cons (.o2 .ix (.var 3) (.cst (.int 0))) (.cons (.o2 .add (.o2 .ix (.var 3) (.cst (.int 1))) (.cst (.int 1))) .nil))) .nil))))))
  .nil)
    .nil)
  (.cons (.ite (.o2 .eq (.o2 .ix (.var 4) (.cst (.int 0))) (.cst (.str .do_)))
    (.cons (.ite (.o2 .eq (.o2 .ix (.var 3) (.cst (.int 0))) (.cst (.int 1000)))
    (.cons (.raiseM (.cst (.int 1000)))
  .nil)
    .nil)
  (.cons (.asg 3 (.tup (.cons (.o2 .add (.o2 .ix (.var 3) (.cst (.int 0))) (.cst (.int 1))) (.cons (.o2 .ix (.var 3) (.cst (.int 1))) .nil))))
  (.cons (.asg 1 (.call 30 (.cons (.tup (.cons (.var 0) (.cons (.tup (.cons (.o2 .ix (.var 4) (.cst (.int 1))) .nil)) .nil))) (.cons (.var 1) .nil))))
  .nil)))
    (.cons (.asg 2 (.o2 .add (.var 2) (.call 37 (.cons (.var 4) (.cons (.var 1) (.cons (.var 3) .nil))))))
  .nil))
  .nil))))
  (.cons (.rtn (.tup (.cons (.var 1) (.cons (.tup .nil) (.cons (.cst .non) (.cons (.var 3) .nil))))))
  .nil))
/-- need_stands_of -/
def b_39 : Ss :=
  (.cons (.for_ (.nm 2) (.seq (.var 1)) (.cons (.ite (.o2 .ne (.o2 .ix (.var 2) (.cst (.int 0))) (.o2 .ix (.var 0) (.cst (.int 0))))
    (.cons (.raise .unlike)
  .nil)
    .nil)
  .nil))
  .nil)
/-- all_gone -/
def b_40 : Ss :=
  (.cons (.asgT [1, 2, 4, 3] (.call 38 (.cons (.var 0) (.cons (.var 1) (.cons (.var 2) (.cons (.var 3) .nil))))))
  (.cons (.ite (.o1 .isnone (.var 4))
    (.cons (.rtn (.tup (.cons (.cst (.str .end_)) (.cons (.var 1) .nil))))
  .nil)
    .nil)
  (.cons (.ite (.o2 .gt (.o2 .ix (.var 3) (.cst (.int 1))) (.cst (.int 8)))
    (.cons (.raiseM (.cst (.int 8)))
  .nil)
    .nil)
  (.cons (.asg 5 (.comp (.call 40 (.cons (.var 0) (.cons (.var 1) (.cons (.o2 .add (.var 2) (.tup (.cons (.var 6) .nil))) (.cons (.var 3) .nil))))) (.nm 6) (.seq (.slice (.var 4) (.some (.cst (.int 1))) .none)) .nil [6]))
  (.cons (.rtn (.tup (.cons (.o2 .ix (.var 4) (.cst (.int 0))) (.cons (.o2 .ix (.var 5) (.cst (.int 0))) (.cons (.o2 .ix (.var 5) (.cst (.int 1))) .nil)))))
  .nil)))))
/-- first_picks -/
def b_41 : Ss :=
  (.cons (.ite (.o2 .eq (.o2 .ix (.var 0) (.cst (.int 0))) (.cst (.str .end_)))
    (.cons (.rtn (.ite (.call 10 (.cons (.var 1) (.cons (.o2 .ix (.var 0) (.cst (.int 1))) .nil))) (.tup .nil) (.cst .non)))
  .nil)
    .nil)
  (.cons (.for_ (.nm 2) (.seq (.tup (.cons (.cst (.int 0)) (.cons (.cst (.int 1)) .nil)))) (.cons (.asg 3 (.call 41 (.cons (.o2 .ix (.var 0) (.o2 .add (.cst (.int 1)) (.var 2))) (.cons (.var 1) .nil))))
  (.cons (.ite (.o1 .notnone (.var 3))
    (.cons (.rtn (.o2 .add (.tup (.cons (.var 2) .nil)) (.var 3)))
  .nil)
    .nil)
  .nil)))
  (.cons (.rtn (.cst .non))
  .nil)))
/-- plan_of -/
def b_42 : Ss :=
  (.cons (.ite (.o2 .eq (.o2 .ix (.var 0) (.cst (.int 0))) (.cst (.str .end_)))
    (.cons (.rtn (.ite (.call 10 (.cons (.var 1) (.cons (.o2 .ix (.var 0) (.cst (.int 1))) .nil))) (.tup (.cons (.cst (.str .end_)) .nil)) (.cst .non)))
  .nil)
    .nil)
  (.cons (.asg 2 (.comp (.call 42 (.cons (.var 3) (.cons (.var 1) .nil))) (.nm 3) (.seq (.slice (.var 0) (.some (.cst (.int 1))) .none)) .nil [3]))
  (.cons (.ite (.o2 .eq (.o2 .ix (.var 0) (.cst (.int 0))) (.cst (.str .theirs)))
    (.cons (.rtn (.ite (.o2 .isin (.cst .non) (.var 2)) (.cst .non) (.tup (.cons (.cst (.str .theirs)) (.cons (.o2 .ix (.var 2) (.cst (.int 0))) (.cons (.o2 .ix (.var 2) (.cst (.int 1))) .nil))))))
  .nil)
    .nil)
  (.cons (.for_ (.nm 4) (.seq (.tup (.cons (.cst (.int 0)) (.cons (.cst (.int 1)) .nil)))) (.cons (.ite (.o1 .notnone (.o2 .ix (.var 2) (.var 4)))
    (.cons (.rtn (.tup (.cons (.cst (.str .ours)) (.cons (.var 4) (.cons (.o2 .ix (.var 2) (.var 4)) .nil)))))
  .nil)
    .nil)
  .nil))
  (.cons (.rtn (.cst .non))
  .nil)))))
/-- fits_plan -/
def b_43 : Ss :=
  (.cons (.ite (.or (.not (.o1 .istup (.var 2))) (.or (.o2 .eq (.var 2) (.tup .nil)) (.or (.not (.o1 .isstr (.o2 .ix (.var 2) (.cst (.int 0))))) (.o2 .ne (.o2 .ix (.var 2) (.cst (.int 0))) (.o2 .ix (.var 0) (.cst (.int 0)))))))
    (.cons (.rtn (.cst (.bl false)))
  .nil)
    .nil)
  (.cons (.ite (.o2 .eq (.o2 .ix (.var 0) (.cst (.int 0))) (.cst (.str .end_)))
    (.cons (.rtn (.and (.o2 .eq (.o1 .len (.var 2)) (.cst (.int 1))) (.call 10 (.cons (.var 1) (.cons (.o2 .ix (.var 0) (.cst (.int 1))) .nil)))))
  .nil)
    .nil)
  (.cons (.ite (.o2 .ne (.o1 .len (.var 2)) (.cst (.int 3)))
    (.cons (.rtn (.cst (.bl false)))
  .nil)
    .nil)
  (.cons (.ite (.o2 .eq (.o2 .ix (.var 0) (.cst (.int 0))) (.cst (.str .theirs)))
    (.cons (.rtn (.and (.call 43 (.cons (.o2 .ix (.var 0) (.cst (.int 1))) (.cons (.var 1) (.cons (.o2 .ix (.var 2) (.cst (.int 1))) .nil)))) (.call 43 (.cons (.o2 .ix (.var 0) (.cst (.int 2))) (.cons (.var 1) (.cons (.o2 .ix (.var 2) (.cst (.int 2))) .nil))))))
  .nil)
    .nil)
  (.cons (.rtn (.and (.call 0 (.cons (.o2 .ix (.var 2) (.cst (.int 1))) (.cons (.cst (.int 0)) (.cons (.cst (.int 1)) .nil)))) (.call 43 (.cons (.o2 .ix (.var 0) (.o2 .add (.cst (.int 1)) (.o2 .ix (.var 2) (.cst (.int 1))))) (.cons (.var 1) (.cons (.o2 .ix (.var 2) (.cst (.int 2))) .nil))))))
  .nil)))))
/-- whole_tree -/
def b_44 : Ss :=
  (.cons (.exp (.call 36 (.cons (.var 0) .nil)))
  (.cons (.exp (.call 4 (.cons (.o2 .ix (.var 0) (.cst (.int 0))) (.cons (.var 1) .nil))))
  (.cons (.exp (.call 8 (.cons (.var 2) .nil)))
  (.cons (.exp (.call 39 (.cons (.var 0) (.cons (.tup (.cons (.var 2) .nil)) .nil))))
  (.cons (.rtn (.call 40 (.cons (.o2 .ix (.var 0) (.cst (.int 0))) (.cons (.var 1) (.cons (.tup (.cons (.o2 .ix (.var 0) (.cst (.int 1))) .nil)) (.cons (.tup (.cons (.cst (.int 0)) (.cons (.cst (.int 0)) .nil))) .nil))))))
  .nil)))))
/-- picks_to -/
def b_45 : Ss :=
  (.cons (.rtn (.call 41 (.cons (.call 44 (.cons (.var 0) (.cons (.var 1) (.cons (.var 2) .nil)))) (.cons (.var 2) .nil))))
  .nil)
/-- plan -/
def b_46 : Ss :=
  (.cons (.rtn (.call 42 (.cons (.call 44 (.cons (.var 0) (.cons (.var 1) (.cons (.var 2) .nil)))) (.cons (.var 2) .nil))))
  .nil)
/-- is_plan -/
def b_47 : Ss :=
  (.cons (.rtn (.call 43 (.cons (.call 44 (.cons (.var 0) (.cons (.var 1) (.cons (.var 2) .nil)))) (.cons (.var 2) (.cons (.var 3) .nil)))))
  .nil)
-- 48 _law_source: by hand
-- 49 _law_draw: by hand
/-- _law_choice -/
def b_50 : Ss :=
  (.cons (.rtn (.o2 .ix (.var 1) (.call 49 (.cons (.var 0) (.cons (.o1 .len (.var 1)) .nil)))))
  .nil)
/-- _law_from -/
def b_51 : Ss :=
  (.cons (.rtn (.and (.o1 .isint (.var 0)) (.and (.not (.o1 .isbool (.var 0))) (.chain .le .le (.var 1) (.var 0) (.var 2)))))
  .nil)
/-- _law_truly -/
def b_52 : Ss :=
  (.cons (.rtn (.and (.o1 .isbool (.var 0)) (.o2 .eq (.var 0) (.var 1))))
  .nil)
-- 53 _law_names: by hand
/-- _law_size -/
def b_54 : Ss :=
  (.cons (.asg 1 (.cst (.int 0)))
  (.cons (.for_ (.tup [2, 3]) (.seq (.var 0)) (.cons (.asg 1 (.o2 .add (.o2 .add (.var 1) (.cst (.int 1))) (.call 54 (.cons (.var 3) .nil))))
  .nil))
  (.cons (.rtn (.var 1))
  .nil)))
/-- _law_deep -/
def b_55 : Ss :=
  (.cons (.rtn (.o1 .max (.o2 .add (.lst (.cons (.cst (.int 0)) .nil)) (.comp (.o2 .add (.cst (.int 1)) (.call 55 (.cons (.var 2) .nil))) (.tup [1, 2]) (.seq (.var 0)) .nil [1, 2]))))
  .nil)
/-- _law_nesting -/
def b_56 : Ss :=
  (.cons (.asg 3 (.tup .nil))
  (.cons (.for_ (.nm 4) (.range (.call 49 (.cons (.var 0) (.cons (.o2 .add (.var 2) (.cst (.int 1))) .nil)))) (.cons (.asg 3 (.call 57 (.cons (.var 0) (.cons (.var 3) (.cons (.call 49 (.cons (.var 0) (.cons (.var 1) .nil))) (.cons (.cst (.int 10)) .nil))))))
  .nil))
  (.cons (.rtn (.var 3))
  .nil)))
/-- _law_put_in -/
def b_57 : Ss :=
  (.cons (.asg 4 (.call 49 (.cons (.var 0) (.cons (.o2 .add (.o1 .len (.var 1)) (.cst (.int 1))) .nil))))
  (.cons (.ite (.and (.o2 .lt (.var 4) (.o1 .len (.var 1))) (.and (.o2 .gt (.var 3) (.cst (.int 0))) (.o2 .gt (.call 49 (.cons (.var 0) (.cons (.cst (.int 3)) .nil))) (.cst (.int 0)))))
    (.cons (.asg 5 (.call 57 (.cons (.var 0) (.cons (.o2 .ix (.o2 .ix (.var 1) (.var 4)) (.cst (.int 1))) (.cons (.var 2) (.cons (.o2 .sub (.var 3) (.cst (.int 1))) .nil))))))
  (.cons (.rtn (.o2 .add (.o2 .add (.slice (.var 1) .none (.some (.var 4))) (.tup (.cons (.tup (.cons (.o2 .ix (.o2 .ix (.var 1) (.var 4)) (.cst (.int 0))) (.cons (.var 5) .nil))) .nil))) (.slice (.var 1) (.some (.o2 .add (.var 4) (.cst (.int 1)))) .none)))
  .nil))
    .nil)
  (.cons (.rtn (.o2 .add (.o2 .add (.slice (.var 1) .none (.some (.var 4))) (.tup (.cons (.tup (.cons (.var 2) (.cons (.tup .nil) .nil))) .nil))) (.slice (.var 1) (.some (.var 4)) .none)))
  .nil)))
/-- _law_kind -/
def b_58 : Ss :=
  (.cons (.asg 3 (.o2 .add (.cst (.int 1)) (.call 49 (.cons (.var 0) (.cons (.var 2) .nil)))))
  (.cons (.new 4)
  (.cons (.for_ (.nm 5) (.range (.var 3)) (.cons (.new 6)
  (.cons (.for_ (.nm 7) (.range (.var 1)) (.cons (.app 6 (.o1 .tuple (.comp (.call 50 (.cons (.var 0) (.cons (.lst (.cons (.var 5) (.cons (.cst (.int 0)) (.cons (.call 49 (.cons (.var 0) (.cons (.var 3) .nil))) .nil)))) .nil))) (.nm 8) (.range (.var 3)) .nil [8])))
  .nil))
  (.cons (.app 4 (.tupOwn 6))
  .nil))))
  (.cons (.rtn (.tup (.cons (.var 1) (.cons (.tupOwn 4) (.cons (.o1 .tuple (.comp (.var 9) (.nm 9) (.range (.var 3)) (.cons (.o2 .eq (.call 49 (.cons (.var 0) (.cons (.cst (.int 2)) .nil))) (.cst (.int 0))) .nil) [9])) .nil)))))
  .nil))))
/-- _law_end -/
def b_59 : Ss :=
  (.cons (.asg 2 (.cst (.int 0)))
  (.cons (.for_ (.tup [3, 4]) (.seq (.var 1)) (.cons (.asg 2 (.o2 .ix (.o2 .ix (.o2 .ix (.var 0) (.var 2)) (.var 3)) (.call 59 (.cons (.var 0) (.cons (.var 4) .nil)))))
  .nil))
  (.cons (.rtn (.var 2))
  .nil)))
/-- _law_is_of -/
def b_60 : Ss :=
  (.cons (.rtn (.o2 .isin (.call 59 (.cons (.o2 .ix (.var 0) (.cst (.int 1))) (.cons (.var 1) .nil))) (.o2 .ix (.var 0) (.cst (.int 2)))))
  .nil)
/-- _law_marks -/
def b_61 : Ss :=
  (.cons (.asg 2 (.o2 .ix (.call 58 (.cons (.var 0) (.cons (.var 1) (.cons (.cst (.int 3)) .nil)))) (.cst (.int 1))))
  (.cons (.new 3)
  (.cons (.for_ (.nm 4) (.range (.var 1)) (.cons (.app 3 (.o1 .tuple (.comp (.call 49 (.cons (.var 0) (.cons (.var 1) .nil))) (.nm 5) (.seq (.var 2)) .nil [5])))
  .nil))
  (.cons (.rtn (.tup (.cons (.cst (.str .mark)) (.cons (.var 2) (.cons (.tupOwn 3) .nil)))))
  .nil))))
/-- _law_step -/
def b_62 : Ss :=
  (.cons (.asg 2 (.call 50 (.cons (.var 0) (.cons (.lst (.cons (.cst (.str .mark)) (.cons (.cst (.str .about)) (.cons (.cst (.str .drop)) (.cons (.cst (.str .open_)) (.cons (.cst (.str .wrap)) (.cons (.cst (.str .double)) (.cons (.cst (.str .turn)) (.cons (.cst (.str .only)) .nil))))))))) .nil))))
  (.cons (.asg 3 (.call 49 (.cons (.var 0) (.cons (.var 1) .nil))))
  (.cons (.ite (.o2 .eq (.var 2) (.cst (.str .mark)))
    (.cons (.rtn (.call 61 (.cons (.var 0) (.cons (.var 1) .nil))))
  .nil)
    .nil)
  (.cons (.ite (.o2 .eq (.var 2) (.cst (.str .about)))
    (.cons (.asg 4 (.o2 .add (.cst (.int 1)) (.call 49 (.cons (.var 0) (.cons (.cst (.int 2)) .nil)))))
  (.cons (.new 5)
  (.cons (.for_ (.nm 6) (.range (.var 4)) (.cons (.app 5 (.o1 .tuple (.comp (.tup (.cons (.call 49 (.cons (.var 0) (.cons (.var 1) .nil))) (.cons (.call 49 (.cons (.var 0) (.cons (.var 4) .nil))) .nil))) (.nm 7) (.range (.var 1)) .nil [7])))
  .nil))
  (.cons (.rtn (.tup (.cons (.var 2) (.cons (.tupOwn 5) .nil))))
  .nil))))
    .nil)
  (.cons (.ite (.o2 .eq (.var 2) (.cst (.str .wrap)))
    (.cons (.rtn (.tup (.cons (.var 2) (.cons (.var 3) (.cons (.call 49 (.cons (.var 0) (.cons (.var 1) .nil))) .nil)))))
  .nil)
    .nil)
  (.cons (.ite (.o2 .eq (.var 2) (.cst (.str .only)))
    (.cons (.rtn (.tup (.cons (.var 2) (.cons (.call 50 (.cons (.var 0) (.cons (.lst (.cons (.cst (.str .left)) (.cons (.cst (.str .right)) .nil))) .nil))) (.cons (.var 3) .nil)))))
  .nil)
    .nil)
  (.cons (.rtn (.ite (.o2 .eq (.var 2) (.cst (.str .turn))) (.tup (.cons (.var 2) .nil)) (.tup (.cons (.var 2) (.cons (.var 3) .nil)))))
  .nil)))))))
/-- _law_stepped -/
def b_63 : Ss :=
  (.cons (.par [3, 4] (.cons (.o2 .ix (.var 0) (.cst (.int 0))) (.cons (.lst .nil) .nil)))
  (.cons (.for_ (.tup [5, 6]) (.seq (.var 1)) (.cons (.par [7, 8] (.cons (.var 5) (.cons (.cst (.int 0)) .nil)))
  (.cons (.ite (.o2 .eq (.var 3) (.cst (.str .mark)))
    (.cons (.asg 7 (.o2 .ix (.o2 .ix (.o2 .ix (.var 0) (.cst (.int 2))) (.var 5)) (.call 59 (.cons (.o2 .ix (.var 0) (.cst (.int 1))) (.cons (.var 6) .nil)))))
  .nil)
    .nil)
  (.cons (.ite (.o2 .eq (.var 3) (.cst (.str .about)))
    (.cons (.asgT [7, 8] (.o2 .ix (.o2 .ix (.o2 .ix (.var 0) (.cst (.int 1))) (.var 2)) (.var 5)))
  .nil)
    .nil)
  (.cons (.asg 9 (.tup (.cons (.var 7) (.cons (.call 63 (.cons (.var 0) (.cons (.var 6) (.cons (.var 8) .nil)))) .nil))))
  (.cons (.asg 10 (.ite (.o2 .eq (.var 3) (.cst (.str .only))) (.and (.o2 .ne (.var 3) (.cst (.str .turn))) (.o2 .eq (.o2 .ix (.var 0) (.o1 .neg (.cst (.int 1)))) (.var 5))) (.and (.o2 .gt (.o1 .len (.var 0)) (.cst (.int 1))) (.o2 .eq (.o2 .ix (.var 0) (.cst (.int 1))) (.var 5)))))
  (.cons (.ite (.o2 .eq (.var 3) (.cst (.str .drop)))
    (.cons (.asg 4 (.ite (.var 10) (.var 4) (.o2 .add (.var 4) (.lst (.cons (.var 9) .nil)))))
  .nil)
    (.cons (.ite (.o2 .eq (.var 3) (.cst (.str .open_)))
    (.cons (.asg 4 (.o2 .add (.var 4) (.ite (.var 10) (.o1 .list (.o2 .ix (.var 9) (.cst (.int 1)))) (.lst (.cons (.var 9) .nil)))))
  .nil)
    (.cons (.ite (.o2 .eq (.var 3) (.cst (.str .wrap)))
    (.cons (.asg 4 (.o2 .add (.var 4) (.ite (.var 10) (.lst (.cons (.tup (.cons (.o2 .ix (.var 0) (.cst (.int 2))) (.cons (.tup (.cons (.var 9) .nil)) .nil))) .nil)) (.lst (.cons (.var 9) .nil)))))
  .nil)
    (.cons (.ite (.o2 .eq (.var 3) (.cst (.str .double)))
    (.cons (.asg 4 (.o2 .add (.var 4) (.ite (.var 10) (.lst (.cons (.var 9) (.cons (.var 9) .nil))) (.lst (.cons (.var 9) .nil)))))
  .nil)
    (.cons (.ite (.o2 .eq (.var 3) (.cst (.str .turn)))
    (.cons (.asg 4 (.o2 .add (.lst (.cons (.var 9) .nil)) (.var 4)))
  .nil)
    (.cons (.ite (.and (.o2 .eq (.var 3) (.cst (.str .only))) (.and (.var 10) (.o2 .eq (.o2 .ix (.var 0) (.cst (.int 1))) (.cst (.str .right)))))
    (.cons (.asg 4 (.o2 .add (.comp (.var 11) (.nm 11) (.seq (.var 4)) (.cons (.o2 .ne (.o2 .ix (.var 11) (.cst (.int 0))) (.var 5)) .nil) [11]) (.lst (.cons (.var 9) .nil))))
  .nil)
    (.cons (.ite (.and (.o2 .eq (.var 3) (.cst (.str .only))) (.var 10))
    (.cons (.asg 4 (.ite (.o2 .ne (.comp (.var 11) (.nm 11) (.seq (.var 4)) (.cons (.o2 .eq (.o2 .ix (.var 11) (.cst (.int 0))) (.var 5)) .nil) [11]) (.lst .nil)) (.var 4) (.o2 .add (.var 4) (.lst (.cons (.var 9) .nil)))))
  .nil)
    (.cons (.asg 4 (.o2 .add (.var 4) (.lst (.cons (.var 9) .nil))))
  .nil))
  .nil))
  .nil))
  .nil))
  .nil))
  .nil))
  .nil))
  .nil)))))))
  (.cons (.rtn (.o1 .tuple (.var 4)))
  .nil)))
/-- _law_known -/
def b_64 : Ss :=
  (.cons (.asg 0 (.tup (.cons (.cst (.int 2)) (.cons (.tup (.cons (.tup (.cons (.tup (.cons (.cst (.int 1)) (.cons (.cst (.int 1)) .nil))) (.cons (.tup (.cons (.cst (.int 1)) (.cons (.cst (.int 1)) .nil))) .nil))) (.cons (.tup (.cons (.tup (.cons (.cst (.int 0)) (.cons (.cst (.int 0)) .nil))) (.cons (.tup (.cons (.cst (.int 0)) (.cons (.cst (.int 0)) .nil))) .nil))) .nil))) (.cons (.tup (.cons (.cst (.int 0)) .nil)) .nil)))))
  (.cons (.asg 1 (.tup (.cons (.cst (.int 2)) (.cons (.tup (.cons (.tup (.cons (.tup (.cons (.cst (.int 0)) (.cons (.cst (.int 1)) .nil))) (.cons (.tup (.cons (.cst (.int 1)) (.cons (.cst (.int 1)) .nil))) .nil))) (.cons (.tup (.cons (.tup (.cons (.cst (.int 1)) (.cons (.cst (.int 1)) .nil))) (.cons (.tup (.cons (.cst (.int 1)) (.cons (.cst (.int 1)) .nil))) .nil))) .nil))) (.cons (.tup (.cons (.cst (.int 1)) .nil)) .nil)))))
  (.cons (.asg 2 (.tup (.cons (.cst (.int 2)) (.cons (.tup (.cons (.tup (.cons (.tup (.cons (.cst (.int 1)) (.cons (.cst (.int 1)) (.cons (.cst (.int 2)) .nil)))) (.cons (.tup (.cons (.cst (.int 1)) (.cons (.cst (.int 2)) (.cons (.cst (.int 2)) .nil)))) .nil))) (.cons (.tup (.cons (.tup (.cons (.cst (.int 1)) (.cons (.cst (.int 1)) (.cons (.cst (.int 2)) .nil)))) (.cons (.tup (.cons (.cst (.int 1)) (.cons (.cst (.int 2)) (.cons (.cst (.int 2)) .nil)))) .nil))) (.cons (.tup (.cons (.tup (.cons (.cst (.int 2)) (.cons (.cst (.int 2)) (.cons (.cst (.int 2)) .nil)))) (.cons (.tup (.cons (.cst (.int 2)) (.cons (.cst (.int 2)) (.cons (.cst (.int 2)) .nil)))) .nil))) .nil)))) (.cons (.tup (.cons (.cst (.int 0)) (.cons (.cst (.int 1)) .nil))) .nil)))))
  (.cons (.rtn (.lst (.cons (.tup (.cons (.cst (.int 2)) (.cons (.tup (.cons (.tup (.cons (.tup (.cons (.cst (.int 0)) .nil)) (.cons (.tup (.cons (.cst (.int 0)) .nil)) .nil))) .nil)) (.cons (.tup (.cons (.cst (.int 0)) .nil)) .nil)))) (.cons (.tup (.cons (.cst (.int 2)) (.cons (.tup (.cons (.tup (.cons (.tup (.cons (.cst (.int 0)) .nil)) (.cons (.tup (.cons (.cst (.int 0)) .nil)) .nil))) .nil)) (.cons (.tup .nil) .nil)))) (.cons (.var 0) (.cons (.var 1) (.cons (.var 2) .nil)))))))
  .nil))))
-- 65 _law_answer: by hand
/-- _law_part -/
def b_66 : Ss :=
  (.cons (.asg 3 (.ite (.o2 .gt (.var 2) (.cst (.int 1))) (.call 49 (.cons (.var 0) (.cons (.cst (.int 9)) .nil))) (.call 49 (.cons (.var 0) (.cons (.cst (.int 2)) .nil)))))
  (.cons (.ite (.o2 .lt (.var 3) (.cst (.int 2)))
    (.cons (.rtn (.tup (.cons (.cst (.str .do_)) (.cons (.call 62 (.cons (.var 0) (.cons (.var 1) .nil))) .nil))))
  .nil)
    .nil)
  (.cons (.ite (.o2 .eq (.var 3) (.cst (.int 2)))
    (.cons (.rtn (.tup (.cons (.cst (.str .row)) (.cons (.o1 .tuple (.comp (.call 66 (.cons (.var 0) (.cons (.var 1) (.cons (.o2 .sub (.var 2) (.cst (.int 1))) .nil)))) (.nm 4) (.range (.call 49 (.cons (.var 0) (.cons (.cst (.int 4)) .nil)))) .nil [4])) .nil))))
  .nil)
    .nil)
  (.cons (.ite (.o2 .eq (.var 3) (.cst (.int 3)))
    (.cons (.asg 5 (.call 50 (.cons (.var 0) (.cons (.lst (.cons (.cst (.int 0)) (.cons (.cst (.int 1)) (.cons (.cst (.int 2)) (.cons (.cst (.int 3)) .nil))))) .nil))))
  (.cons (.rtn (.tup (.cons (.cst (.str .times)) (.cons (.var 5) (.cons (.call 66 (.cons (.var 0) (.cons (.var 1) (.cons (.o2 .sub (.var 2) (.cst (.int 1))) .nil)))) .nil)))))
  .nil))
    .nil)
  (.cons (.par [6, 7] (.cons (.call 66 (.cons (.var 0) (.cons (.var 1) (.cons (.o2 .sub (.var 2) (.cst (.int 1))) .nil)))) (.cons (.call 66 (.cons (.var 0) (.cons (.var 1) (.cons (.o2 .sub (.var 2) (.cst (.int 1))) .nil)))) .nil)))
  (.cons (.ite (.o2 .lt (.var 3) (.cst (.int 6)))
    (.cons (.rtn (.tup (.cons (.cst (.str .if_)) (.cons (.call 76 (.cons (.var 0) (.cons (.var 1) (.cons (.cst (.int 2)) .nil)))) (.cons (.var 6) (.cons (.var 7) .nil))))))
  .nil)
    .nil)
  (.cons (.rtn (.tup (.cons (.call 50 (.cons (.var 0) (.cons (.lst (.cons (.cst (.str .ours)) (.cons (.cst (.str .theirs)) .nil))) .nil))) (.cons (.var 6) (.cons (.var 7) .nil)))))
  .nil)))))))
/-- _law_within -/
def b_67 : Ss :=
  (.cons (.ite (.o2 .isin (.o2 .ix (.var 0) (.cst (.int 0))) (.tup (.cons (.cst (.str .row)) (.cons (.cst (.str .do_)) .nil))))
    (.cons (.rtn (.ite (.o2 .eq (.o2 .ix (.var 0) (.cst (.int 0))) (.cst (.str .row))) (.o2 .ix (.var 0) (.cst (.int 1))) (.tup .nil)))
  .nil)
    .nil)
  (.cons (.rtn (.ite (.o2 .isin (.o2 .ix (.var 0) (.cst (.int 0))) (.tup (.cons (.cst (.str .ours)) (.cons (.cst (.str .theirs)) .nil)))) (.slice (.var 0) (.some (.cst (.int 1))) .none) (.slice (.var 0) (.some (.cst (.int 2))) .none)))
  .nil))
/-- _law_many -/
def b_68 : Ss :=
  (.cons (.rtn (.o2 .add (.cst (.int 1)) (.o1 .sum (.comp (.call 68 (.cons (.var 1) .nil)) (.nm 1) (.seq (.call 67 (.cons (.var 0) .nil))) .nil [1]))))
  .nil)
/-- _law_program -/
def b_69 : Ss :=
  (.cons (.for_ (.nm 3) (.range (.cst (.int 5))) (.cons (.asg 4 (.call 66 (.cons (.var 0) (.cons (.var 1) (.cons (.var 2) .nil)))))
  (.cons (.ite (.o2 .lt (.call 68 (.cons (.var 4) .nil)) (.cst (.int 13)))
    (.cons (.rtn (.tup (.cons (.var 1) (.cons (.var 4) .nil))))
  .nil)
    .nil)
  .nil)))
  (.cons (.rtn (.tup (.cons (.var 1) (.cons (.tup (.cons (.cst (.str .ours)) (.cons (.tup (.cons (.cst (.str .do_)) (.cons (.tup (.cons (.cst (.str .turn)) .nil)) .nil))) (.cons (.tup (.cons (.cst (.str .do_)) (.cons (.tup (.cons (.cst (.str .drop)) (.cons (.cst (.int 1)) .nil))) .nil))) .nil)))) .nil))))
  .nil))
/-- _law_twice -/
def b_70 : Ss :=
  (.cons (.asg 2 (.cst (.int 0)))
  (.cons (.for_ (.tup [3, 4]) (.seq (.var 1)) (.cons (.asg 2 (.o2 .add (.var 2) (.o2 .mul (.o2 .add (.cst (.int 1)) (.call 70 (.cons (.var 0) (.cons (.var 4) .nil)))) (.ite (.o2 .eq (.var 3) (.var 0)) (.cst (.int 2)) (.cst (.int 1))))))
  .nil))
  (.cons (.rtn (.var 2))
  .nil)))
/-- _law_done -/
def b_71 : Ss :=
  (.cons (.ite (.and (.o2 .eq (.o2 .ix (.var 0) (.cst (.int 0))) (.cst (.str .double))) (.o2 .gt (.call 70 (.cons (.o2 .ix (.var 0) (.cst (.int 1))) (.cons (.var 1) .nil))) (.cst (.int 300))))
    (.cons (.rtn (.cst .non))
  .nil)
    .nil)
  (.cons (.asg 2 (.call 63 (.cons (.var 0) (.cons (.var 1) (.cons (.cst (.int 0)) .nil)))))
  (.cons (.rtn (.ite (.and (.o2 .le (.call 54 (.cons (.var 2) .nil)) (.cst (.int 300))) (.o2 .le (.call 55 (.cons (.var 2) .nil)) (.cst (.int 60)))) (.var 2) (.cst .non)))
  .nil)))
/-- _law_ends -/
def b_72 : Ss :=
  (.cons (.whl (.o2 .ne (.var 0) (.tup .nil)) (.cons (.par [3, 0] (.cons (.o2 .ix (.var 0) (.cst (.int 0))) (.cons (.slice (.var 0) (.some (.cst (.int 1))) .none) .nil)))
  (.cons (.asg 4 (.o2 .ix (.var 3) (.cst (.int 0))))
  (.cons (.ite (.o1 .isnone (.var 1))
    (.cons (.rtn (.cst .non))
  .nil)
    .nil)
  (.cons (.ite (.o2 .eq (.var 4) (.cst (.str .do_)))
    (.cons (.asg 1 (.call 71 (.cons (.o2 .ix (.var 3) (.cst (.int 1))) (.cons (.var 1) .nil))))
  .nil)
    (.cons (.ite (.o2 .eq (.var 4) (.cst (.str .row)))
    (.cons (.asg 0 (.o2 .add (.o2 .ix (.var 3) (.cst (.int 1))) (.var 0)))
  .nil)
    (.cons (.ite (.o2 .eq (.var 4) (.cst (.str .times)))
    (.cons (.asg 0 (.o2 .add (.o2 .mul (.tup (.cons (.o2 .ix (.var 3) (.cst (.int 2))) .nil)) (.o2 .ix (.var 3) (.cst (.int 1)))) (.var 0)))
  .nil)
    (.cons (.ite (.o2 .eq (.var 4) (.cst (.str .if_)))
    (.cons (.asg 0 (.o2 .add (.tup (.cons (.ite (.call 60 (.cons (.o2 .ix (.var 3) (.cst (.int 1))) (.cons (.var 1) .nil))) (.o2 .ix (.var 3) (.cst (.int 2))) (.o2 .ix (.var 3) (.cst (.int 3)))) .nil)) (.var 0)))
  .nil)
    (.cons (.ite (.o2 .gt (.o1 .len (.var 2)) (.cst (.int 6)))
    (.cons (.rtn (.cst .non))
  .nil)
    (.cons (.asg 5 (.call 72 (.cons (.o2 .add (.tup (.cons (.o2 .ix (.var 3) (.cst (.int 1))) .nil)) (.var 0)) (.cons (.var 1) (.cons (.o2 .add (.var 2) (.tup (.cons (.cst (.int 0)) .nil))) .nil)))))
  (.cons (.asg 6 (.call 72 (.cons (.o2 .add (.tup (.cons (.o2 .ix (.var 3) (.cst (.int 2))) .nil)) (.var 0)) (.cons (.var 1) (.cons (.o2 .add (.var 2) (.tup (.cons (.cst (.int 1)) .nil))) .nil)))))
  (.cons (.rtn (.ite (.or (.o1 .isnone (.var 5)) (.o1 .isnone (.var 6))) (.cst .non) (.o2 .add (.var 5) (.var 6))))
  .nil))))
  .nil))
  .nil))
  .nil))
  .nil))
  .nil)))))
  (.cons (.rtn (.ite (.o1 .isnone (.var 1)) (.cst .non) (.lst (.cons (.tup (.cons (.var 2) (.cons (.var 1) .nil))) .nil))))
  .nil))
/-- _law_wins -/
def b_73 : Ss :=
  (.cons (.whl (.and (.o2 .ne (.var 0) (.tup .nil)) (.o1 .notnone (.var 1))) (.cons (.par [4, 0] (.cons (.o2 .ix (.var 0) (.cst (.int 0))) (.cons (.slice (.var 0) (.some (.cst (.int 1))) .none) .nil)))
  (.cons (.asg 5 (.o2 .ix (.var 4) (.cst (.int 0))))
  (.cons (.ite (.o2 .eq (.var 5) (.cst (.str .do_)))
    (.cons (.asg 1 (.call 71 (.cons (.o2 .ix (.var 4) (.cst (.int 1))) (.cons (.var 1) .nil))))
  .nil)
    (.cons (.ite (.o2 .eq (.var 5) (.cst (.str .row)))
    (.cons (.asg 0 (.o2 .add (.o2 .ix (.var 4) (.cst (.int 1))) (.var 0)))
  .nil)
    (.cons (.ite (.o2 .eq (.var 5) (.cst (.str .times)))
    (.cons (.asg 0 (.o2 .add (.o2 .mul (.tup (.cons (.o2 .ix (.var 4) (.cst (.int 2))) .nil)) (.o2 .ix (.var 4) (.cst (.int 1)))) (.var 0)))
  .nil)
    (.cons (.ite (.o2 .eq (.var 5) (.cst (.str .if_)))
    (.cons (.asg 0 (.o2 .add (.tup (.cons (.ite (.call 60 (.cons (.o2 .ix (.var 4) (.cst (.int 1))) (.cons (.var 1) .nil))) (.o2 .ix (.var 4) (.cst (.int 2))) (.o2 .ix (.var 4) (.cst (.int 3)))) .nil)) (.var 0)))
  .nil)
    (.cons (.asg 6 (.call 73 (.cons (.o2 .add (.tup (.cons (.o2 .ix (.var 4) (.cst (.int 1))) .nil)) (.var 0)) (.cons (.var 1) (.cons (.var 2) (.cons (.var 3) .nil))))))
  (.cons (.asg 7 (.call 73 (.cons (.o2 .add (.tup (.cons (.o2 .ix (.var 4) (.cst (.int 2))) .nil)) (.var 0)) (.cons (.var 1) (.cons (.var 2) (.cons (.var 3) .nil))))))
  (.cons (.asg 8 (.or (.o2 .eq (.var 3) (.cst (.str .may))) (.and (.o2 .eq (.var 3) (.cst (.str .game))) (.o2 .eq (.var 5) (.cst (.str .ours))))))
  (.cons (.ite (.or (.o1 .isnone (.var 6)) (.o1 .isnone (.var 7)))
    (.cons (.rtn (.cst .non))
  .nil)
    .nil)
  (.cons (.rtn (.ite (.var 8) (.or (.var 6) (.var 7)) (.and (.var 6) (.var 7))))
  .nil))))))
  .nil))
  .nil))
  .nil))
  .nil))))
  (.cons (.rtn (.ite (.o1 .isnone (.var 1)) (.cst .non) (.call 60 (.cons (.var 2) (.cons (.var 1) .nil)))))
  .nil))
/-- _law_programs -/
def b_74 : Ss :=
  (.cons (.par [0, 1, 2] (.cons (.tup (.cons (.cst (.str .do_)) (.cons (.tup (.cons (.cst (.str .drop)) (.cons (.cst (.int 1)) .nil))) .nil))) (.cons (.tup (.cons (.cst (.str .do_)) (.cons (.tup (.cons (.cst (.str .wrap)) (.cons (.cst (.int 1)) (.cons (.cst (.int 0)) .nil)))) .nil))) (.cons (.o2 .ix (.call 64 .nil) (.cst (.int 3))) .nil))))
  (.cons (.asg 3 (.tup (.cons (.cst (.str .if_)) (.cons (.var 2) (.cons (.tup (.cons (.cst (.str .do_)) (.cons (.tup (.cons (.cst (.str .turn)) .nil)) .nil))) (.cons (.tup (.cons (.cst (.str .row)) (.cons (.tup .nil) .nil))) .nil))))))
  (.cons (.rtn (.lst (.cons (.tup (.cons (.cst (.int 2)) (.cons (.tup (.cons (.cst (.str .ours)) (.cons (.var 0) (.cons (.var 1) .nil)))) .nil))) (.cons (.tup (.cons (.cst (.int 2)) (.cons (.tup (.cons (.cst (.str .theirs)) (.cons (.var 0) (.cons (.var 1) .nil)))) .nil))) (.cons (.tup (.cons (.cst (.int 2)) (.cons (.tup (.cons (.cst (.str .row)) (.cons (.tup (.cons (.var 0) (.cons (.var 3) .nil))) .nil))) .nil))) .nil)))))
  .nil)))
/-- _law_sample -/
def b_75 : Ss :=
  (.cons (.rtn (.tup (.cons (.tup (.cons (.cst (.int 0)) (.cons (.tup (.cons (.tup (.cons (.cst (.int 1)) (.cons (.tup .nil) .nil))) .nil)) .nil))) (.cons (.tup (.cons (.cst (.int 1)) (.cons (.tup .nil) .nil))) .nil))))
  .nil)
/-- _law_lively -/
def b_76 : Ss :=
  (.cons (.for_ (.nm 3) (.range (.cst (.int 3))) (.cons (.asg 4 (.call 58 (.cons (.var 0) (.cons (.var 1) (.cons (.var 2) .nil)))))
  (.cons (.ite (.chain .lt .lt (.cst (.int 0)) (.o1 .len (.o2 .ix (.var 4) (.cst (.int 2)))) (.o1 .len (.o2 .ix (.var 4) (.cst (.int 1)))))
    (.cons (.rtn (.var 4))
  .nil)
    .nil)
  .nil)))
  (.cons (.rtn (.var 4))
  .nil))
/-- _law_is_plan -/
def b_77 : Ss :=
  (.cons (.whl (.and (.o2 .ne (.var 0) (.tup .nil)) (.o1 .notnone (.var 1))) (.cons (.par [4, 0] (.cons (.o2 .ix (.var 0) (.cst (.int 0))) (.cons (.slice (.var 0) (.some (.cst (.int 1))) .none) .nil)))
  (.cons (.asg 5 (.o2 .ix (.var 4) (.cst (.int 0))))
  (.cons (.ite (.o2 .eq (.var 5) (.cst (.str .do_)))
    (.cons (.asg 1 (.call 71 (.cons (.o2 .ix (.var 4) (.cst (.int 1))) (.cons (.var 1) .nil))))
  .nil)
    (.cons (.ite (.o2 .eq (.var 5) (.cst (.str .row)))
    (.cons (.asg 0 (.o2 .add (.o2 .ix (.var 4) (.cst (.int 1))) (.var 0)))
  .nil)
    (.cons (.ite (.o2 .eq (.var 5) (.cst (.str .times)))
    (.cons (.asg 0 (.o2 .add (.o2 .mul (.tup (.cons (.o2 .ix (.var 4) (.cst (.int 2))) .nil)) (.o2 .ix (.var 4) (.cst (.int 1)))) (.var 0)))
  .nil)
    (.cons (.ite (.o2 .eq (.var 5) (.cst (.str .if_)))
    (.cons (.asg 0 (.o2 .add (.tup (.cons (.ite (.call 60 (.cons (.o2 .ix (.var 4) (.cst (.int 1))) (.cons (.var 1) .nil))) (.o2 .ix (.var 4) (.cst (.int 2))) (.o2 .ix (.var 4) (.cst (.int 3)))) .nil)) (.var 0)))
  .nil)
    (.cons (.ite (.or (.not (.o1 .istup (.var 3))) (.or (.o2 .ne (.o1 .len (.var 3)) (.cst (.int 3))) (.o2 .ne (.o2 .ix (.var 3) (.cst (.int 0))) (.var 5))))
    (.cons (.rtn (.cst (.bl false)))
  .nil)
    .nil)
  (.cons (.ite (.o2 .eq (.var 5) (.cst (.str .theirs)))
    (.cons (.asg 6 (.call 77 (.cons (.o2 .add (.tup (.cons (.o2 .ix (.var 4) (.cst (.int 1))) .nil)) (.var 0)) (.cons (.var 1) (.cons (.var 2) (.cons (.o2 .ix (.var 3) (.cst (.int 1))) .nil))))))
  (.cons (.rtn (.and (.var 6) (.call 77 (.cons (.o2 .add (.tup (.cons (.o2 .ix (.var 4) (.cst (.int 2))) .nil)) (.var 0)) (.cons (.var 1) (.cons (.var 2) (.cons (.o2 .ix (.var 3) (.cst (.int 2))) .nil)))))))
  .nil))
    .nil)
  (.cons (.ite (.not (.call 51 (.cons (.o2 .ix (.var 3) (.cst (.int 1))) (.cons (.cst (.int 0)) (.cons (.cst (.int 1)) .nil)))))
    (.cons (.rtn (.cst (.bl false)))
  .nil)
    .nil)
  (.cons (.rtn (.call 77 (.cons (.o2 .add (.tup (.cons (.o2 .ix (.var 4) (.o2 .add (.cst (.int 1)) (.o2 .ix (.var 3) (.cst (.int 1))))) .nil)) (.var 0)) (.cons (.var 1) (.cons (.var 2) (.cons (.o2 .ix (.var 3) (.cst (.int 2))) .nil))))))
  .nil)))))
  .nil))
  .nil))
  .nil))
  .nil))))
  (.cons (.rtn (.and (.o2 .eq (.var 3) (.tup (.cons (.cst (.str .end_)) .nil))) (.and (.o1 .notnone (.var 1)) (.call 60 (.cons (.var 2) (.cons (.var 1) .nil))))))
  .nil))
/-- _law_bent -/
def b_78 : Ss :=
  (.cons (.ite (.or (.not (.o1 .istup (.var 1))) (.or (.o2 .ne (.o1 .len (.var 1)) (.cst (.int 3))) (.o2 .eq (.call 49 (.cons (.var 0) (.cons (.cst (.int 4)) .nil))) (.cst (.int 0)))))
    (.cons (.asg 2 (.lst (.cons (.tup (.cons (.cst (.str .end_)) .nil)) (.cons (.tup (.cons (.cst (.str .ours)) (.cons (.cst (.int 0)) (.cons (.var 1) .nil)))) (.cons (.tup (.cons (.cst (.str .theirs)) (.cons (.var 1) (.cons (.var 1) .nil)))) (.cons (.tup (.cons (.cst (.str .end_)) (.cons (.cst (.int 0)) .nil))) .nil))))))
  (.cons (.rtn (.call 50 (.cons (.var 0) (.cons (.o2 .add (.var 2) (.lst (.cons (.cst .non) (.cons (.lst (.cons (.cst (.str .end_)) .nil)) (.cons (.tup .nil) .nil))))) .nil))))
  .nil))
    .nil)
  (.cons (.asg 3 (.o2 .add (.cst (.int 1)) (.call 49 (.cons (.var 0) (.cons (.cst (.int 2)) .nil)))))
  (.cons (.ite (.o1 .istup (.o2 .ix (.var 1) (.var 3)))
    (.cons (.rtn (.o2 .add (.o2 .add (.slice (.var 1) .none (.some (.var 3))) (.tup (.cons (.call 78 (.cons (.var 0) (.cons (.o2 .ix (.var 1) (.var 3)) .nil))) .nil))) (.slice (.var 1) (.some (.o2 .add (.var 3) (.cst (.int 1)))) .none)))
  .nil)
    .nil)
  (.cons (.rtn (.o2 .add (.o2 .add (.slice (.var 1) .none (.some (.var 3))) (.tup (.cons (.call 50 (.cons (.var 0) (.cons (.lst (.cons (.cst (.int 0)) (.cons (.cst (.int 1)) (.cons (.cst (.bl true)) (.cons (.cst (.int 2)) (.cons (.cst .non) .nil)))))) .nil))) .nil))) (.slice (.var 1) (.some (.o2 .add (.var 3) (.cst (.int 1)))) .none)))
  .nil))))
/-- _law_right -/
def b_79 : Ss :=
  (.cons (.par [4, 5] (.cons (.tup (.cons (.o2 .ix (.var 1) (.cst (.int 1))) .nil)) (.cons (.call 72 (.cons (.tup (.cons (.o2 .ix (.var 1) (.cst (.int 1))) .nil)) (.cons (.var 2) (.cons (.tup .nil) .nil)))) .nil)))
  (.cons (.ite (.or (.o1 .isnone (.var 5)) (.o2 .gt (.o1 .max (.comp (.call 54 (.cons (.var 7) .nil)) (.tup [6, 7]) (.seq (.var 5)) .nil [6, 7])) (.cst (.int 200))))
    (.cons (.rtn (.cst (.bl true)))
  .nil)
    .nil)
  (.cons (.asg 8 (.comp (.var 6) (.tup [6, 7]) (.seq (.var 5)) (.cons (.call 60 (.cons (.var 3) (.cons (.var 7) .nil))) .nil) [6, 7]))
  (.cons (.ite (.o2 .ne (.ans (.call 45 (.cons (.var 1) (.cons (.var 2) (.cons (.var 3) .nil))))) (.tup (.cons (.cst (.str .told)) (.cons (.ite (.o2 .ne (.var 8) (.lst .nil)) (.o2 .ix (.var 8) (.cst (.int 0))) (.cst .non)) .nil))))
    (.cons (.rtn (.cst (.bl false)))
  .nil)
    .nil)
  (.cons (.asg 9 (.call 46 (.cons (.var 1) (.cons (.var 2) (.cons (.var 3) .nil)))))
  (.cons (.ite (.o2 .ne (.o1 .notnone (.var 9)) (.call 73 (.cons (.var 4) (.cons (.var 2) (.cons (.var 3) (.cons (.cst (.str .game)) .nil))))))
    (.cons (.rtn (.cst (.bl false)))
  .nil)
    .nil)
  (.cons (.ite (.and (.o1 .notnone (.var 9)) (.not (.call 77 (.cons (.var 4) (.cons (.var 2) (.cons (.var 3) (.cons (.var 9) .nil)))))))
    (.cons (.rtn (.cst (.bl false)))
  .nil)
    .nil)
  (.cons (.asg 10 (.ite (.o1 .notnone (.var 9)) (.var 9) (.tup (.cons (.cst (.str .end_)) .nil))))
  (.cons (.for_ (.nm 11) (.range (.cst (.int 5))) (.cons (.ite (.not (.call 52 (.cons (.call 47 (.cons (.var 1) (.cons (.var 2) (.cons (.var 3) (.cons (.var 10) .nil))))) (.cons (.call 77 (.cons (.var 4) (.cons (.var 2) (.cons (.var 3) (.cons (.var 10) .nil))))) .nil))))
    (.cons (.rtn (.cst (.bl false)))
  .nil)
    .nil)
  (.cons (.asg 10 (.call 78 (.cons (.var 0) (.cons (.var 10) .nil))))
  .nil)))
  (.cons (.rtn (.cst (.bl true)))
  .nil))))))))))
/-- law -/
def b_80 : Ss :=
  (.cons (.asg 1 (.call 48 (.cons (.var 0) (.cons (.cst (.int 0)) .nil))))
  (.cons (.asg 2 (.call 69 (.cons (.var 1) (.cons (.cst (.int 2)) (.cons (.cst (.int 3)) .nil)))))
  (.cons (.for_ (.nm 3) (.range (.cst (.int 3))) (.cons (.ite (.not (.call 79 (.cons (.var 1) (.cons (.var 2) (.cons (.call 56 (.cons (.var 1) (.cons (.cst (.int 2)) (.cons (.cst (.int 3)) .nil)))) (.cons (.call 76 (.cons (.var 1) (.cons (.cst (.int 2)) (.cons (.cst (.int 3)) .nil)))) .nil))))))
    (.cons (.rtn (.cst (.bl false)))
  .nil)
    .nil)
  .nil))
  (.cons (.asgT [4, 5, 6] (.call 74 .nil))
  (.cons (.asgT [7, 8, 9, 10, 11] (.call 64 .nil))
  (.cons (.asg 12 (.call 75 .nil))
  (.cons (.ite (.o2 .ne (.lst (.cons (.call 45 (.cons (.var 4) (.cons (.var 12) (.cons (.var 10) .nil)))) (.cons (.call 45 (.cons (.var 5) (.cons (.var 12) (.cons (.var 8) .nil)))) (.cons (.call 45 (.cons (.var 5) (.cons (.var 12) (.cons (.var 7) .nil)))) .nil)))) (.lst (.cons (.tup (.cons (.cst (.int 1)) .nil)) (.cons (.cst .non) (.cons (.tup (.cons (.cst (.int 0)) .nil)) .nil)))))
    (.cons (.rtn (.cst (.bl false)))
  .nil)
    .nil)
  (.cons (.ite (.o2 .ne (.call 46 (.cons (.var 4) (.cons (.var 12) (.cons (.var 10) .nil)))) (.tup (.cons (.cst (.str .ours)) (.cons (.cst (.int 1)) (.cons (.tup (.cons (.cst (.str .end_)) .nil)) .nil)))))
    (.cons (.rtn (.cst (.bl false)))
  .nil)
    .nil)
  (.cons (.ite (.o1 .notnone (.call 46 (.cons (.var 5) (.cons (.var 12) (.cons (.var 10) .nil)))))
    (.cons (.rtn (.cst (.bl false)))
  .nil)
    .nil)
  (.cons (.ite (.o2 .ne (.call 46 (.cons (.var 6) (.cons (.var 12) (.cons (.call 16 (.cons (.var 10) .nil)) .nil)))) (.tup (.cons (.cst (.str .end_)) .nil)))
    (.cons (.rtn (.cst (.bl false)))
  .nil)
    .nil)
  (.cons (.ite (.not (.call 47 (.cons (.var 5) (.cons (.var 12) (.cons (.var 7) (.cons (.tup (.cons (.cst (.str .theirs)) (.cons (.tup (.cons (.cst (.str .end_)) .nil)) (.cons (.tup (.cons (.cst (.str .end_)) .nil)) .nil)))) .nil))))))
    (.cons (.rtn (.cst (.bl false)))
  .nil)
    .nil)
  (.cons (.ite (.call 47 (.cons (.var 4) (.cons (.var 12) (.cons (.var 10) (.cons (.tup (.cons (.cst (.str .ours)) (.cons (.cst (.int 0)) (.cons (.tup (.cons (.cst (.str .end_)) .nil)) .nil)))) .nil)))))
    (.cons (.rtn (.cst (.bl false)))
  .nil)
    .nil)
  (.cons (.ite (.or (.call 47 (.cons (.var 4) (.cons (.var 12) (.cons (.var 10) (.cons (.tup (.cons (.cst (.str .ours)) (.cons (.cst (.bl true)) (.cons (.tup (.cons (.cst (.str .end_)) .nil)) .nil)))) .nil))))) (.call 47 (.cons (.var 6) (.cons (.var 12) (.cons (.var 10) (.cons (.tup (.cons (.cst (.str .end_)) .nil)) .nil))))))
    (.cons (.rtn (.cst (.bl false)))
  .nil)
    .nil)
  (.cons (.for_ (.nm 13) (.seq (.tup (.cons (.var 4) (.cons (.var 5) .nil)))) (.cons (.for_ (.nm 14) (.seq (.tup (.cons (.var 9) (.cons (.var 10) (.cons (.call 16 (.cons (.var 10) .nil)) .nil))))) (.cons (.ite (.not (.call 79 (.cons (.var 1) (.cons (.tup (.cons (.cst (.int 2)) (.cons (.tup (.cons (.cst (.str .times)) (.cons (.cst (.int 3)) (.cons (.o2 .ix (.var 13) (.cst (.int 1))) .nil)))) .nil))) (.cons (.var 12) (.cons (.var 14) .nil))))))
    (.cons (.rtn (.cst (.bl false)))
  .nil)
    .nil)
  .nil))
  .nil))
  (.cons (.asg 15 (.tup (.cons (.cst (.int 2)) (.cons (.tup (.cons (.cst (.str .times)) (.cons (.cst (.int 9)) (.cons (.tup (.cons (.cst (.str .ours)) (.cons (.tup (.cons (.cst (.str .row)) (.cons (.tup .nil) .nil))) (.cons (.tup (.cons (.cst (.str .do_)) (.cons (.tup (.cons (.cst (.str .turn)) .nil)) .nil))) .nil)))) .nil)))) .nil))))
  (.cons (.ite (.o2 .ne (.ans (.call 45 (.cons (.var 15) (.cons (.var 12) (.cons (.var 7) .nil))))) (.tup (.cons (.cst (.str .many)) (.cons (.cst (.int 8)) .nil))))
    (.cons (.rtn (.cst (.bl false)))
  .nil)
    .nil)
  (.cons (.ite (.o2 .ne (.ans (.call 46 (.cons (.var 15) (.cons (.var 12) (.cons (.var 7) .nil))))) (.tup (.cons (.cst (.str .many)) (.cons (.cst (.int 8)) .nil))))
    (.cons (.rtn (.cst (.bl false)))
  .nil)
    .nil)
  (.cons (.asg 16 (.tup (.cons (.cst (.int 2)) (.cons (.tup (.cons (.cst (.str .times)) (.cons (.cst (.int 1001)) (.cons (.tup (.cons (.cst (.str .do_)) (.cons (.tup (.cons (.cst (.str .turn)) .nil)) .nil))) .nil)))) .nil))))
  (.cons (.ite (.o2 .ne (.ans (.call 45 (.cons (.var 16) (.cons (.var 12) (.cons (.var 7) .nil))))) (.tup (.cons (.cst (.str .many)) (.cons (.cst (.int 1000)) .nil))))
    (.cons (.rtn (.cst (.bl false)))
  .nil)
    .nil)
  (.cons (.ite (.o2 .ne (.call 45 (.cons (.tup (.cons (.cst (.int 2)) (.cons (.tup (.cons (.cst (.str .times)) (.cons (.cst (.int 8)) (.cons (.o2 .ix (.o2 .ix (.var 15) (.cst (.int 1))) (.cst (.int 2))) .nil)))) .nil))) (.cons (.var 12) (.cons (.var 7) .nil)))) (.o2 .mul (.tup (.cons (.cst (.int 0)) .nil)) (.cst (.int 8))))
    (.cons (.rtn (.cst (.bl false)))
  .nil)
    .nil)
  (.cons (.ite (.o2 .ne (.ans (.call 46 (.cons (.var 4) (.cons (.var 12) (.cons (.cst .non) .nil))))) (.cst (.str .kind)))
    (.cons (.rtn (.cst (.bl false)))
  .nil)
    .nil)
  (.cons (.rtn (.o2 .eq (.ans (.call 46 (.cons (.var 4) (.cons (.cst .non) (.cons (.cst .non) .nil))))) (.cst (.str .nesting))))
  .nil))))))))))))))))))))))

theorem c_0 : d_0.body = some b_0 := by kernel_rfl
theorem c_1 : d_1.body = some b_1 := by kernel_rfl
theorem c_2 : d_2.body = some b_2 := by kernel_rfl
theorem c_3 : d_3.body = some b_3 := by kernel_rfl
theorem c_4 : d_4.body = some b_4 := by kernel_rfl
theorem c_5 : d_5.body = some b_5 := by kernel_rfl
theorem c_6 : d_6.body = some b_6 := by kernel_rfl
theorem c_7 : d_7.body = some b_7 := by kernel_rfl
theorem c_8 : d_8.body = some b_8 := by kernel_rfl
theorem c_9 : d_9.body = some b_9 := by kernel_rfl
theorem c_10 : d_10.body = some b_10 := by kernel_rfl
theorem c_14 : d_14.body = some b_14 := by kernel_rfl
theorem c_15 : d_15.body = some b_15 := by kernel_rfl
theorem c_16 : d_16.body = some b_16 := by kernel_rfl
theorem c_17 : d_17.body = some b_17 := by kernel_rfl
theorem c_18 : d_18.body = some b_18 := by kernel_rfl
theorem c_19 : d_19.body = some b_19 := by kernel_rfl
theorem c_20 : d_20.body = some b_20 := by kernel_rfl
theorem c_21 : d_21.body = some b_21 := by kernel_rfl
theorem c_22 : d_22.body = some b_22 := by kernel_rfl
theorem c_23 : d_23.body = some b_23 := by kernel_rfl
theorem c_24 : d_24.body = some b_24 := by kernel_rfl
theorem c_25 : d_25.body = some b_25 := by kernel_rfl
theorem c_26 : d_26.body = some b_26 := by kernel_rfl
theorem c_27 : d_27.body = some b_27 := by kernel_rfl
theorem c_28 : d_28.body = some b_28 := by kernel_rfl
theorem c_29 : d_29.body = some b_29 := by kernel_rfl
theorem c_30 : d_30.body = some b_30 := by kernel_rfl
theorem c_31 : d_31.body = some b_31 := by kernel_rfl
theorem c_32 : d_32.body = some b_32 := by kernel_rfl
theorem c_33 : d_33.body = some b_33 := by kernel_rfl
theorem c_34 : d_34.body = some b_34 := by kernel_rfl
theorem c_35 : d_35.body = some b_35 := by kernel_rfl
theorem c_36 : d_36.body = some b_36 := by kernel_rfl
theorem c_37 : d_37.body = some b_37 := by kernel_rfl
theorem c_38 : d_38.body = some b_38 := by kernel_rfl
theorem c_39 : d_39.body = some b_39 := by kernel_rfl
theorem c_40 : d_40.body = some b_40 := by kernel_rfl
theorem c_41 : d_41.body = some b_41 := by kernel_rfl
theorem c_42 : d_42.body = some b_42 := by kernel_rfl
theorem c_43 : d_43.body = some b_43 := by kernel_rfl
theorem c_44 : d_44.body = some b_44 := by kernel_rfl
theorem c_45 : d_45.body = some b_45 := by kernel_rfl
theorem c_46 : d_46.body = some b_46 := by kernel_rfl
theorem c_47 : d_47.body = some b_47 := by kernel_rfl
theorem c_50 : d_50.body = some b_50 := by kernel_rfl
theorem c_51 : d_51.body = some b_51 := by kernel_rfl
theorem c_52 : d_52.body = some b_52 := by kernel_rfl
theorem c_54 : d_54.body = some b_54 := by kernel_rfl
theorem c_55 : d_55.body = some b_55 := by kernel_rfl
theorem c_56 : d_56.body = some b_56 := by kernel_rfl
theorem c_57 : d_57.body = some b_57 := by kernel_rfl
theorem c_58 : d_58.body = some b_58 := by kernel_rfl
theorem c_59 : d_59.body = some b_59 := by kernel_rfl
theorem c_60 : d_60.body = some b_60 := by kernel_rfl
theorem c_61 : d_61.body = some b_61 := by kernel_rfl
theorem c_62 : d_62.body = some b_62 := by kernel_rfl
theorem c_63 : d_63.body = some b_63 := by kernel_rfl
theorem c_64 : d_64.body = some b_64 := by kernel_rfl
theorem c_66 : d_66.body = some b_66 := by kernel_rfl
theorem c_67 : d_67.body = some b_67 := by kernel_rfl
theorem c_68 : d_68.body = some b_68 := by kernel_rfl
theorem c_69 : d_69.body = some b_69 := by kernel_rfl
theorem c_70 : d_70.body = some b_70 := by kernel_rfl
theorem c_71 : d_71.body = some b_71 := by kernel_rfl
theorem c_72 : d_72.body = some b_72 := by kernel_rfl
theorem c_73 : d_73.body = some b_73 := by kernel_rfl
theorem c_74 : d_74.body = some b_74 := by kernel_rfl
theorem c_75 : d_75.body = some b_75 := by kernel_rfl
theorem c_76 : d_76.body = some b_76 := by kernel_rfl
theorem c_77 : d_77.body = some b_77 := by kernel_rfl
theorem c_78 : d_78.body = some b_78 := by kernel_rfl
theorem c_79 : d_79.body = some b_79 := by kernel_rfl
theorem c_80 : d_80.body = some b_80 := by kernel_rfl
end Nk
end
section
set_option Elab.async false
set_option linter.all false
set_option maxRecDepth 100000
set_option maxHeartbeats 1000000
/-! the table of the bodies: the table alone -/
namespace Nk
open PySem PySem.Spec PyProof.Rows L2
/-- what a draw does -/
def drawP : List D → Nk.M D
  | [.src, .int m] => fun st => if 0 < m ∧ m < 1073741824 ∧ 0 ≤ st.n ∧ st.n < 2147483179 then
      (if 0 < st.c then .ok (.int (st.c % m)) ⟨st.c / m, st.n⟩
      else .ok (.int (((((st.n * 48271 + 97) % 2147483179) * (((st.n * 48271 + 97) % 2147483179) / 47 + 34)) % 2147483171) / 32 % m)) ⟨st.c, (st.n * 48271 + 97) % 2147483179⟩) else .stuck
  | _ => stk
def rows_0 : List (Dd × Option Ss) := [(d_0, some b_0), (d_1, some b_1), (d_2, some b_2), (d_3, some b_3), (d_4, some b_4), (d_5, some b_5), (d_6, some b_6), (d_7, some b_7), (d_8, some b_8), (d_9, some b_9), (d_10, some b_10), (d_11, none), (d_12, none), (d_13, none), (d_14, some b_14), (d_15, some b_15), (d_16, some b_16), (d_17, some b_17), (d_18, some b_18), (d_19, some b_19), (d_20, some b_20), (d_21, some b_21), (d_22, some b_22), (d_23, some b_23), (d_24, some b_24)]
def rows_1 : List (Dd × Option Ss) := [(d_25, some b_25), (d_26, some b_26), (d_27, some b_27), (d_28, some b_28), (d_29, some b_29), (d_30, some b_30), (d_31, some b_31), (d_32, some b_32), (d_33, some b_33), (d_34, some b_34), (d_35, some b_35), (d_36, some b_36), (d_37, some b_37), (d_38, some b_38), (d_39, some b_39), (d_40, some b_40), (d_41, some b_41), (d_42, some b_42), (d_43, some b_43), (d_44, some b_44), (d_45, some b_45), (d_46, some b_46), (d_47, some b_47), (d_48, none), (d_49, none)]
def rows_2 : List (Dd × Option Ss) := [(d_50, some b_50), (d_51, some b_51), (d_52, some b_52), (d_53, none), (d_54, some b_54), (d_55, some b_55), (d_56, some b_56), (d_57, some b_57), (d_58, some b_58), (d_59, some b_59), (d_60, some b_60), (d_61, some b_61), (d_62, some b_62), (d_63, some b_63), (d_64, some b_64), (d_65, none), (d_66, some b_66), (d_67, some b_67), (d_68, some b_68), (d_69, some b_69), (d_70, some b_70), (d_71, some b_71), (d_72, some b_72), (d_73, some b_73), (d_74, some b_74)]
def rows_3 : List (Dd × Option Ss) := [(d_75, some b_75), (d_76, some b_76), (d_77, some b_77), (d_78, some b_78), (d_79, some b_79), (d_80, none)]
def rows : List (Dd × Option Ss) := rows_0 ++ rows_1 ++ rows_2 ++ rows_3
theorem rows_dds : rows.map (·.1) = dds := rfl
/-- the one input at which the table of a least form is asked for -/
def lotArgs : List D := [.int 2, .tup [.tup [.tup [.int 0, .int 1], .tup [.int 1, .int 1]], .tup [.tup [.int 1, .int 1], .tup [.int 1, .int 1]]], .tup [.int 0]]
def lotRes : D := .tup [.int 2, .tup [.tup [.tup [.int 0, .int 1], .tup [.int 1, .int 1]], .tup [.tup [.int 1, .int 1], .tup [.int 1, .int 1]]], .tup [.int 0]]
mutual
/-- the very same: ints and tuples of them alone -/
def same : D → D → Bool
  | .int i, .int j => i == j
  | .tup xs, .tup ys => sames xs ys
  | _, _ => false
def sames : List D → List D → Bool
  | [], [] => true
  | x :: xs, y :: ys => same x y && sames xs ys
  | _, _ => false
end
mutual
theorem same_eq : ∀ x y : D, same x y = true → x = y
  | .int i, .int j, h => by simp only [same, beq_iff_eq] at h; rw [h]
  | .tup xs, .tup ys, h => by simp only [same] at h; rw [sames_eq xs ys h]
  | .non, _, h => by simp [same] at h
  | .bl _, _, h => by simp [same] at h
  | .str _, _, h => by simp [same] at h
  | .lst _, _, h => by simp [same] at h
  | .src, _, h => by simp [same] at h
  | .int _, .non, h => by simp [same] at h
  | .int _, .bl _, h => by simp [same] at h
  | .int _, .str _, h => by simp [same] at h
  | .int _, .lst _, h => by simp [same] at h
  | .int _, .tup _, h => by simp [same] at h
  | .int _, .src, h => by simp [same] at h
  | .tup _, .non, h => by simp [same] at h
  | .tup _, .bl _, h => by simp [same] at h
  | .tup _, .str _, h => by simp [same] at h
  | .tup _, .lst _, h => by simp [same] at h
  | .tup _, .int _, h => by simp [same] at h
  | .tup _, .src, h => by simp [same] at h
theorem sames_eq : ∀ xs ys : List D, sames xs ys = true → xs = ys
  | [], [], _ => rfl
  | [], _ :: _, h => by simp [sames] at h
  | _ :: _, [], h => by simp [sames] at h
  | x :: xs, y :: ys, h => by
    simp only [sames, Bool.and_eq_true] at h
    rw [same_eq x y h.1, sames_eq xs ys h.2]
end
def lotP : List D → Nk.M D := fun ds => if sames ds lotArgs = true then ret lotRes else stk
def tab (i : Nat) : Option Df := match rows[i]? with
  | some (d, some b) => some (.fn ⟨d.N.length, d.pars.length, b, d.drop⟩)
  | _ => if i = 49 then some (.prim drawP) else if i = 13 then some (.prim lotP) else none
end Nk
end
section
set_option Elab.async false
set_option linter.all false
set_option maxRecDepth 100000
set_option maxHeartbeats 0
/-! law's closed parts -/
namespace Nk
def drop2 : Ss → Ss
  | .cons _ (.cons _ (.cons _ r)) => r
  | s => s
/-- behind the three rounds -/
def closed80 : Ss := drop2 b_80
def takeS : Nat → Ss → Ss
  | 0, _ => .nil
  | n + 1, .cons s r => .cons s (takeS n r)
  | _, s => s
def dropS : Nat → Ss → Ss
  | 0, s => s
  | n + 1, .cons _ r => dropS n r
  | _, s => s
/-- ahead of the six further rounds -/
def closedA : Ss := takeS 10 closed80
/-- behind them -/
def closedC : Ss := dropS 11 closed80
def envS (p t : Option D) : Env := [none, some .src, p, t] ++ List.replicate 13 none
def envA (p t : Option D) : Env := match evSs (callK tab 170) closedA (envS p t) ⟨0, 0⟩ with
  | .ok (.nx ρ) _ => ρ
  | _ => []
theorem closedA_ok (p t : Option D) (st : Sr) : evSs (callK tab 170) closedA (envS p t) st = .ok (.nx (envA p t)) st := by kernel_rfl
/-! what stands behind them, statement by statement -/
def hdS : Ss → S
  | .cons s _ => s
  | _ => .exp (.cst .non)
def sC (i : Nat) : S := hdS (dropS i closedC)
def nxE (s : S) (ρ : Env) : Env := match evS (callK tab 170) s ρ ⟨0, 0⟩ with
  | .ok (.nx ρ) _ => ρ
  | _ => []
def envC0 (p t x y : Option D) : Env := ((envA p t).set 13 x).set 14 y
def envC1 (p t x y : Option D) : Env := nxE (sC 0) (envC0 p t x y)
def envC4 (p t x y : Option D) : Env := nxE (sC 3) (envC1 p t x y)
theorem sC0_ok (p t x y : Option D) (st : Sr) : evS (callK tab 170) (sC 0) (envC0 p t x y) st = .ok (.nx (envC1 p t x y)) st := by kernel_rfl
theorem sC1_ok (p t x y : Option D) (st : Sr) : evS (callK tab 170) (sC 1) (envC1 p t x y) st = .ok (.nx (envC1 p t x y)) st := by kernel_rfl
theorem sC2_ok (p t x y : Option D) (st : Sr) : evS (callK tab 170) (sC 2) (envC1 p t x y) st = .ok (.nx (envC1 p t x y)) st := by kernel_rfl
theorem sC3_ok (p t x y : Option D) (st : Sr) : evS (callK tab 170) (sC 3) (envC1 p t x y) st = .ok (.nx (envC4 p t x y)) st := by kernel_rfl
theorem sC4_ok (p t x y : Option D) (st : Sr) : evS (callK tab 170) (sC 4) (envC4 p t x y) st = .ok (.nx (envC4 p t x y)) st := by kernel_rfl
theorem sC5_ok (p t x y : Option D) (st : Sr) : evS (callK tab 170) (sC 5) (envC4 p t x y) st = .ok (.nx (envC4 p t x y)) st := by kernel_rfl
theorem sC6_ok (p t x y : Option D) (st : Sr) : evS (callK tab 170) (sC 6) (envC4 p t x y) st = .ok (.nx (envC4 p t x y)) st := by kernel_rfl
theorem sC7_ok (p t x y : Option D) (st : Sr) : evS (callK tab 170) (sC 7) (envC4 p t x y) st = .ok (.rt (.bl true)) st := by kernel_rfl
theorem closedC_eq : closedC = .cons (sC 0) (.cons (sC 1) (.cons (sC 2) (.cons (sC 3) (.cons (sC 4) (.cons (sC 5) (.cons (sC 6) (.cons (sC 7) .nil))))))) := by kernel_rfl
theorem ss_nx {cal : Nat → List D → M D} {s : S} {ss : Ss} {ρ ρ' : Env} {st : Sr} (h : evS cal s ρ st = .ok (.nx ρ') st) : evSs cal (.cons s ss) ρ st = evSs cal ss ρ' st := by
  rw [evSs]
  unfold bnd
  rw [h]
theorem ss_rt {cal : Nat → List D → M D} {s : S} {ss : Ss} {ρ : Env} {st : Sr} {d : D} (h : evS cal s ρ st = .ok (.rt d) st) : evSs cal (.cons s ss) ρ st = .ok (.rt d) st := by
  rw [evSs]
  unfold bnd
  rw [h]
  rfl
theorem closedC_ok (p t x y : Option D) (st : Sr) : evSs (callK tab 170) closedC (((envA p t).set 13 x).set 14 y) st = .ok (.rt (.bl true)) st := by
  rw [closedC_eq]
  have e0 := sC0_ok p t x y st
  have e1 := sC1_ok p t x y st
  have e2 := sC2_ok p t x y st
  have e3 := sC3_ok p t x y st
  have e4 := sC4_ok p t x y st
  have e5 := sC5_ok p t x y st
  have e6 := sC6_ok p t x y st
  have e7 := sC7_ok p t x y st
  generalize callK tab 170 = cal at e0 e1 e2 e3 e4 e5 e6 e7 ⊢
  exact (ss_nx e0).trans ((ss_nx e1).trans ((ss_nx e2).trans ((ss_nx e3).trans ((ss_nx e4).trans ((ss_nx e5).trans ((ss_nx e6).trans (ss_rt e7)))))))
end Nk
end
section
set_option Elab.async false
set_option linter.all false
set_option maxRecDepth 100000
set_option maxHeartbeats 0
/-! the head: the run -/
namespace NkH
open PySem PySem.Spec PyProof.Rows L2 Nk
def fn : List He.DefD := dds.map fun d => ⟨(d.name, none), d.name, d.name, defArgs (topS d.at_), defBody (topS d.at_), defScope (topS d.at_), [], []⟩
def excs : List Str := ["InvalidNesting", "InvalidKind", "InvalidProgram", "InvalidPlace", "InvalidPicks", "InvalidWay", "InvalidNumber", "InvalidText", "Unlike"]
def bltn : List Str := ["len", "sum", "all", "max", "tuple", "list", "int", "isinstance", "range", "enumerate", "zip", "bool", "str", "super", "ValueError", "sorted", "set", "dict", "abs", "min"]
/-- the classes that are caught -/
def thrown : List Str := ["InvalidNesting", "InvalidKind", "InvalidProgram", "Unlike", "TooMany"]
def fa : List He.Fa := (dds.map fun d => He.Fa.glo d.name) ++ (excs.map He.Fa.glo) ++ [.glo "TooMany", .glo "NestError"] ++ (excs.map He.Fa.exc) ++ (bltn.map He.Fa.free) ++ (consts.map fun p => He.Fa.int p.1 p.2) ++ (thrown.map fun x => He.Fa.exm x "TooMany" (decide (x = "TooMany"))) ++ (thrown.map fun x => He.Fa.exm x "NestError" true)
abbrev R : PySem.W.OpenRow := PySem.W.OpenLaw.row PySem.Challenge.rw_nestkinds_k48_whole_picks_and_plans
def tf : List He.Defn := [("law", none), ("_law_right", none)]
/-! what is told of the class with a limit -/
def tmA (K : PySem.W.Frag) : Addr × Addr := (He.ga K "TooMany", He.ma K (He.ga K "TooMany") "__init__")
def tmClo (K : PySem.W.Frag) : Addr × Addr := match K.lookup (tmA K).2 with
  | some ⟨_, _, .func fd, _⟩ => (match fd.closure, fd.code with
    | [(_, cc)], .ref cda => (cc, cda)
    | _, _ => (0, 0))
  | _ => (0, 0)
def oexB (K : PySem.W.Frag) (C : Addr) : Bool := match K.lookup C with
  | some ⟨.type "type", _, .cls cd, sl⟩ => (match cd.mro, sl.toList with
    | .ref C' :: bm, [_, _, _, _, some (.builtin n), _] => C' == C && n == "ValueError.__new__" && !cd.hasDel && cd.hasDict && PySem.HandSPX.refsVE bm
    | _, _ => false)
  | _ => false
def tmB (K : PySem.W.Frag) : Bool :=
  let C := (tmA K).1
  let fI := (tmA K).2
  let cc := (tmClo K).1
  let cda := (tmClo K).2
  oexB K C && PySem.W.excInitIn K C [.type "ValueError", .type "Exception", .type "BaseException", .type "object"] "ValueError.__new__" &&
  decide (PySem.W.findIn K (.ref C) "__init__" = some (some (.ref fI))) && decide (PySem.W.typeIn K (.ref fI) = some (.type "function")) &&
  (match K.lookup fI with
  | some ⟨_, _, .func fd, _⟩ => decide (fd.closure = [(("__class__" : Str), cc)]) && decide (fd.defaults = .none) && decide (fd.code = .ref cda)
  | _ => false) && PySem.W.codeIn K (.ref cda) "TooMany.__init__" &&
  (match K.lookup cc with
  | some ⟨_, _, .cell (some v), _⟩ => decide (v = .ref C)
  | _ => false) &&
  (match K.lookup cda with
  | some ⟨_, _, .fields vs, _⟩ => (match (vs[2]? : Option Value) with
    | some (.str file _) => decide (PySem.Challenge.pw_nestkinds_k48_whole_picks_and_plans.main.file = file)
    | _ => false)
  | _ => false) &&
  decide (PySem.W.mroIn K C (.ref C) = some true) && decide (PySem.W.ks_superIn K C C "__init__" = some (some (.builtin "ValueError.__init__"))) && decide (PySem.W.subIn K (.ref C) (.type "ValueError") = some true) &&
  decide (PySem.W.nsIn K cStatics "thirdparty.any" = some none) && decide (PySem.W.findIn K (.ref C) "limit" = some none) &&
  decide (PySem.W.findIn K (.ref C) "__setattr__" = some (some (.builtin "object.__setattr__"))) && decide (PySem.W.subIn K (.ref C) (.type "BaseException") = some true) && decide (PySem.W.typeIn K (.ref C) = some (.type "type")) && PySem.W.keepIn K (.ref C)
abbrev TmW : Type := Option (Str × Str × Arguments × FuncBody × Scope × Addr × Addr)
def tmW (K : PySem.W.Frag) : TmW := match K.lookup (tmA K).2 with
  | some ⟨_, _, .func fd, _⟩ => some (fd.name, fd.qualname, fd.params, fd.body, fd.scope, fd.globals, fd.builtins)
  | _ => none
def tmV : TmW := some ("__init__", "TooMany.__init__", defArgs tmI, .stmts (defBody tmI), defScope tmI, mainGlobals, builtinsNs)
def excCB (K : PySem.W.Frag) (D : Addr) : Bool := decide (PySem.W.findIn K (.ref D) "__getattribute__" = some (some (.builtin "BaseException.__getattribute__"))) && decide (PySem.W.findIn K (.ref D) "__getattr__" = some none) && decide (PySem.W.subIn K (.ref D) (.type "BaseException") = some true) && PySem.W.hasDictIn K D &&
  decide (PySem.W.findIn K (.ref D) "__class__" = some (some (.builtin "object.__class__"))) && decide (PySem.W.specialIn K (.builtin "object.__class__") "__get__" = some (some (.builtin "getset_descriptor.__get__"))) && decide (PySem.W.takesIn K (.builtin "object.__class__") = some true) && decide (PySem.W.mroIn K D (.type "object") = some true)
/-- what isinstance is asked of -/
def asked : List Str := excs ++ [("TooMany" : Str)]
def isB (K : PySem.W.Frag) : Bool := (thrown.all fun D => excCB K (He.ga K D) && (asked.all fun C => decide (PySem.W.kitOne K (.ref (He.ga K D)) (.ref (He.ga K C)) = some (decide (D = C)))) && decide (PySem.W.kitOne K (.ref (He.ga K D)) (.type "ValueError") = some true)) && xfB K (He.ga K "TooMany")
def ex (K : PySem.W.Frag) : Bool := tmB K && (isB K && decide ((He.cT K ("law", none)).2 ≠ (He.cT K ("_law_right", none)).2))
/-- what is looked at: what is reached from the globals, as it stands behind the top -/
def as0 : List Addr := [3, 6, 4, 24, 37, 49, 61, 73, 85, 97, 109, 121, 133, 154, 163, 170, 177, 182, 189, 194, 199, 206, 213, 220, 227, 234, 239, 244, 251, 256, 263, 268, 275, 282, 287, 294, 299, 306, 313, 320]
def as1 : List Addr := [325, 330, 337, 342, 349, 356, 361, 368, 373, 380, 387, 394, 401, 408, 413, 420, 425, 432, 439, 446, 453, 460, 467, 474, 481, 488, 495, 500, 507, 512, 519, 526, 531, 538, 545, 550, 555, 560, 567, 574]
def as2 : List Addr := [579, 586, 591, 598, 605, 612, 619, 626, 633, 640, 647, 654, 661, 666, 673, 0, 23, 36, 48, 60, 72, 84, 96, 108, 120, 132, 153, 162, 169, 176, 181, 188, 193, 198, 205, 212, 219, 226, 233, 238]
def as3 : List Addr := [243, 250, 255, 262, 267, 274, 281, 286, 293, 298, 305, 312, 319, 324, 329, 336, 341, 348, 355, 360, 367, 372, 379, 386, 393, 400, 407, 412, 419, 424, 431, 438, 445, 452, 459, 466, 473, 480, 487, 494]
def as4 : List Addr := [499, 506, 511, 518, 525, 530, 537, 544, 549, 554, 559, 566, 573, 578, 585, 590, 597, 604, 611, 618, 625, 632, 639, 646, 653, 660, 665, 672, 22, 25, 35, 47, 59, 71, 83, 95, 107, 119, 131, 151]
def as5 : List Addr := [152, 157, 158, 159, 160, 161, 164, 165, 166, 167, 168, 171, 172, 173, 174, 175, 178, 179, 180, 183, 184, 185, 186, 187, 190, 191, 192, 195, 196, 197, 200, 201, 202, 203, 204, 207, 208, 209, 210, 211]
def as6 : List Addr := [214, 215, 216, 217, 218, 221, 222, 223, 224, 225, 228, 229, 230, 231, 232, 235, 236, 237, 240, 241, 242, 245, 246, 247, 248, 249, 252, 253, 254, 257, 258, 259, 260, 261, 264, 265, 266, 269, 270, 271]
def as7 : List Addr := [272, 273, 276, 277, 278, 279, 280, 283, 284, 285, 288, 289, 290, 291, 292, 295, 296, 297, 300, 301, 302, 303, 304, 307, 308, 309, 310, 311, 314, 315, 316, 317, 318, 321, 322, 323, 326, 327, 328, 331]
def as8 : List Addr := [332, 333, 334, 335, 338, 339, 340, 343, 344, 345, 346, 347, 350, 351, 352, 353, 354, 357, 358, 359, 362, 363, 364, 365, 366, 369, 370, 371, 374, 375, 376, 377, 378, 381, 382, 383, 384, 385, 388, 389]
def as9 : List Addr := [390, 391, 392, 395, 396, 397, 398, 399, 402, 403, 404, 405, 406, 409, 410, 411, 414, 415, 416, 417, 418, 421, 422, 423, 426, 427, 428, 429, 430, 433, 434, 435, 436, 437, 440, 441, 442, 443, 444, 447]
def as10 : List Addr := [448, 449, 450, 451, 454, 455, 456, 457, 458, 461, 462, 463, 464, 465, 468, 469, 470, 471, 472, 475, 476, 477, 478, 479, 482, 483, 484, 485, 486, 489, 490, 491, 492, 493, 496, 497, 498, 501, 502, 503]
def as11 : List Addr := [504, 505, 508, 509, 510, 513, 514, 515, 516, 517, 520, 521, 522, 523, 524, 527, 528, 529, 532, 533, 534, 535, 536, 539, 540, 541, 542, 543, 546, 547, 548, 551, 552, 553, 556, 557, 558, 561, 562, 563]
def as12 : List Addr := [564, 565, 568, 569, 570, 571, 572, 575, 576, 577, 580, 581, 582, 583, 584, 587, 588, 589, 592, 593, 594, 595, 596, 599, 600, 601, 602, 603, 606, 607, 608, 609, 610, 613, 614, 615, 616, 617, 620, 621]
def as13 : List Addr := [622, 623, 624, 627, 628, 629, 630, 631, 634, 635, 636, 637, 638, 641, 642, 643, 644, 645, 648, 649, 650, 651, 652, 655, 656, 657, 658, 659, 662, 663, 664, 667, 668, 669, 670, 671, 150, 139, 2]
def asN (_ : Addr → Option Obj) : List Addr := as0 ++ (as1 ++ (as2 ++ (as3 ++ (as4 ++ (as5 ++ (as6 ++ (as7 ++ (as8 ++ (as9 ++ (as10 ++ (as11 ++ (as12 ++ (as13)))))))))))))
def obN (g : Addr → Option Obj) : He.AlX × TmW := ((He.obsT fa fn [] (He.frT g (asN g)), ex (He.frT g (asN g)) && He.tabsB g tf (He.frT g (asN g))), tmW (He.frT g (asN g)))
theorem says_of {w : World} {h : Heap} {as : List Addr} (e : ((He.obsT fa fn [] (He.frT h.get? as), ex (He.frT h.get? as) && He.tabsB h.get? tf (He.frT h.get? as)) : He.AlX) = He.valX fn [] w) : He.SaysX fa fn [] tf ex w h (He.frT h.get? as) := by
  have e1 : He.obsT fa fn [] (He.frT h.get? as) = He.valT fn [] w := congrArg (fun z : He.AlX => z.1) e
  have e2 : (ex (He.frT h.get? as) && He.tabsB h.get? tf (He.frT h.get? as)) = true := congrArg (fun z : He.AlX => z.2) e
  obtain ⟨h1, h2⟩ := He.ba e2
  have key : ∀ p ∈ tf, PySem.W.codeHdIn (He.frT h.get? as) (He.cT (He.frT h.get? as) p).1 (He.cT (He.frT h.get? as) p).2 = true ∧ ∃ o, h.get? (He.cT (He.frT h.get? as) p).2 = some o ∧ He.emptyTab o = true := fun p hp => by
    obtain ⟨h3, h4⟩ := He.ba (List.all_eq_true.mp h2 p hp)
    refine ⟨h3, ?_⟩
    cases q : h.get? (He.cT (He.frT h.get? as) p).2 with
    | none =>
      rw [q] at h4
      cases h4
    | some o =>
      rw [q] at h4
      exact ⟨o, rfl, h4⟩
  exact ⟨e1, h1, fun p hp => (key p hp).1, fun p hp => by
    obtain ⟨_, o, q, z⟩ := key p hp
    exact He.frT_none q z, fun p hp => by
    obtain ⟨_, o, q, z⟩ := key p hp
    rw [q, He.emptyTab_eq z]⟩
/-- the Hook: the kit's, and the method's text -/
def hk : PySem.W.Hook where
  α := He.AlX × TmW
  obs := fun s => obN s.heap.get?
  val := fun w => (He.valX fn [] w, tmV)
  says := fun w h => ∃ K : PySem.W.Frag, K.In h ∧ He.SaysX fa fn [] tf ex w h K ∧ tmW K = tmV
  of := fun _ _ e => ⟨_, He.frT_in, says_of (congrArg (fun z : He.AlX × TmW => z.1) e), congrArg (fun z : He.AlX × TmW => z.2) e⟩
  keeps := fun _ _ _ ⟨K, hK, c, e⟩ k => ⟨K, PySem.W.Frag.In.keeps hK k, ⟨c.t, c.more, c.hd, c.out, fun p hp => k _ _ (c.empty p hp)⟩, e⟩
def ob (s : PySem.W.SharedT) : He.AlX × TmW := obN (HandSHeadRun.getT s)
theorem ob_eq (s : PySem.W.SharedT) : ob s = hk.obs s.abs := congrArg obN (funext (HandSHeadRun.getT_eq s))
def loose : List Str := (PySem.Challenge.pw_nestkinds_k48_whole_picks_and_plans.main.scope.names.filter fun y => decide (y.2 = .local) && !decide (y.1 = ("law" : Str))).map (·.1)
end NkH
end
section
set_option Elab.async false
set_option linter.all false
set_option maxRecDepth 100000
set_option maxHeartbeats 0
/-! the head: the run -/
namespace NkH
open PySem PySem.Spec PyProof.Rows L2 Nk
theorem run (w : World) : HandSHeadRun.RunEq R (PySem.W.view R.prog [109]) hk ob 8000 loose w := by
  intro os
  kernel_rfl
end NkH
end
section
set_option Elab.async false
set_option linter.all false
set_option maxRecDepth 100000
set_option maxHeartbeats 4000000
/-! the operations are sound -/
namespace Nk
open PySem PySem.Spec PyProof.Rows L2

/-! ### tuple * 0, tuple * 1 -/
theorem tuple_mulW1 (l : Addr) (items : Array Value) (n : Nat) (dd : Option Addr) (sl : Array (Option Value)) (u : Tok) :
    Meets (Builtin.«tuple.__mul__» ⟨[.ref l, .int 1 u], []⟩) (fun _ R s => s.heap.get? l = some { cls := .type "tuple", dict := dd, data := .seq items n, slots := sl } ∧ R (.ok (.ret (Value.ref l))) s) :=
  .of_wp fun prog w A R s h => by
    obtain ⟨hp, g, d, tk, os⟩ := s
    obtain ⟨hl, h⟩ := h
    have f1 := AutoSeq1.idx_int
    wp_walk using wpAny_loadPart' hl
    repeat (first
      | (refine wpAny_ite_false (by decide) ?_; wp_walk using wpAny_loadPart' hl)
      | (refine wpAny_ite_true (by simp) ?_; wp_walk using wpAny_loadPart' hl))
    exact ⟨_, rfl, h⟩
theorem tuple_mulW0 (l : Addr) (items : Array Value) (n : Nat) (dd : Option Addr) (sl : Array (Option Value)) (u : Tok) (hne : items.isEmpty = false) :
    Meets (Builtin.«tuple.__mul__» ⟨[.ref l, .int 0 u], []⟩) (fun _ R s => s.heap.get? l = some { cls := .type "tuple", dict := dd, data := .seq items n, slots := sl } ∧
      R (.ok (.ret (Value.ref s.heap.objs.size))) { s with heap := s.heap.push { cls := Value.type "tuple", data := Data.seq #[] }, toks := s.toks }) :=
  .of_wp fun prog w A R s h => by
    obtain ⟨hp, g, d, tk, os⟩ := s
    obtain ⟨hl, h⟩ := h
    have f1 := AutoSeq1.idx_int
    wp_walk using wpAny_loadPart' hl
    repeat (first
      | (refine wpAny_ite_false (decide_eq_false (by first | decide | (rw [hne]; decide))) ?_; wp_walk using wpAny_loadPart' hl)
      | (refine wpAny_ite_true (by simp) ?_; wp_walk using wpAny_loadPart' hl))
    exact ⟨_, rfl, h⟩
section
variable {X : Cx}
/-- tuple * k, 0 ≤ k ≤ 100 -/
theorem op_repA : OpR X (binaryOp .Mult) (fun x y H Q => ∃ l k xs, x = .ref l ∧ y = .int k ∧ SqT X.K H l xs ∧ xs ≠ [] ∧ 0 ≤ k ∧ k ≤ 100 ∧ xs.length ≤ 100 ∧ (k = 1 → Q (.ref l) H) ∧ (k ≠ 1 → ∀ p, H p = none → Q (.ref p) (upd H p (.tup (List.replicate k.toNat xs).flatten)))) := by
  intro pins s σ H x y v u Q I rx ry h
  obtain ⟨l, k, xs, rfl, rfl, hT, hne, h0, h1, hz, q1, q2⟩ := h
  by_cases hk : 2 ≤ k
  · exact op_repT pins s σ H _ _ v u Q I rx ry ⟨l, k, xs, rfl, rfl, hT, hne, hk, by omega, by omega, q2 (by omega)⟩
  cases rx
  obtain ⟨t, rfl⟩ := ry
  obtain ⟨its, r, ⟨⟨cls, dd, data, sl⟩, ho, hc, n, hd⟩, hs⟩ := I.tuple hT
  simp only at hc hd
  subst hc hd
  have hi : its.toArray.isEmpty = false := by
    cases its with
    | nil => cases r; exact absurd rfl hne
    | cons a b => rfl
  rcases (show k = 0 ∨ k = 1 by omega) with rfl | rfl
  · refine wpAny_binaryOp_repeat_ref (T := "tuple") (U := "int") (by decide) ⟨_, ho, rfl⟩ (fun s' => typeIs_int s' 0 t) noFill_tuple_mul F.fills_int_mul F.slot_int_rmul repeat_tuple F.slot_int_index.lookup
      (call_meets F.slot_int_rmul (typeIs_int s 0 t) F.entry_int_rmul (F.args_int_rmul_2 _ _) (int_rmul_tuple 0 t l its.toArray n dd sl)
        ⟨ho, rfl, ⟨_, ho, rfl⟩, call_meets F.slot_tuple_mul ⟨_, ho, rfl⟩ F.entry_tuple_mul (F.args_tuple_mul_2 _ _) (tuple_mulW0 l its.toArray n dd sl t hi) ⟨ho, ?_⟩⟩)
    refine ⟨.ref s.heap.objs.size, _, I.laid (t' := s.toks) (o := .tup (List.replicate (0 : Int).toNat xs).flatten) (fun b ob q => Heap.get?_push_of_some _ q) (Nat.le_refl _) ?_, rfl, q2 (by decide) _ (I.hok.fresh (Nat.le_refl _))⟩
    exact ⟨Nat.zero_le _, [], .nil, IsTup.new _ _⟩
  · refine wpAny_binaryOp_repeat_ref (T := "tuple") (U := "int") (by decide) ⟨_, ho, rfl⟩ (fun s' => typeIs_int s' 1 t) noFill_tuple_mul F.fills_int_mul F.slot_int_rmul repeat_tuple F.slot_int_index.lookup
      (call_meets F.slot_int_rmul (typeIs_int s 1 t) F.entry_int_rmul (F.args_int_rmul_2 _ _) (int_rmul_tuple 1 t l its.toArray n dd sl)
        ⟨ho, rfl, ⟨_, ho, rfl⟩, call_meets F.slot_tuple_mul ⟨_, ho, rfl⟩ F.entry_tuple_mul (F.args_tuple_mul_2 _ _) (tuple_mulW1 l its.toArray n dd sl t) ⟨ho, ?_⟩⟩)
    exact ⟨.ref l, H, I, rfl, q1 rfl⟩
end

/-! ### what an operation is to do -/
section
variable (T : TL)
/-- a value comes that stands for d -/
def Give (a0 : Addr) (M : Addr → Prop) (H : Hp) (st : Sr) (d : D) (Q : VK) : Prop := ∀ v H', Ext a0 H H' → Hs a0 M T H' st → Rep a0 M H' v d → Q v H'
def rO2 (o : O2) : R2 := fun x y H Q => ∃ a0 M st d1 d2 d, Hs a0 M T H st ∧ Rep a0 M H x d1 ∧ Rep a0 M H y d2 ∧ op2 o d1 d2 = some d ∧ Give T a0 M H st d Q
def rO1 (o : O1) : V → Hp → VK → Prop := fun x H Q => ∃ a0 M st d1 d, Hs a0 M T H st ∧ Rep a0 M H x d1 ∧ op1 o d1 = some d ∧ Give T a0 M H st d Q
end
section
variable {T : TL} {a0 : Addr} {M : Addr → Prop} {H : Hp} {st : Sr} {d : D} {Q : VK}
theorem Give.here (g : Give T a0 M H st d Q) (hs : Hs a0 M T H st) {v : V} (r : Rep a0 M H v d) : Q v H := g v H Ext.refl hs r
theorem Give.newTup {ds : List D} (g : Give T a0 M H st (.tup ds) Q) (hs : Hs a0 M T H st) {xs : List V} (r : Reps a0 M H xs ds) (hl : ds.length ≤ line) {p : Addr} (hp : H p = none) : Q (.ref p) (upd H p (.tup xs)) :=
  g _ _ (Ext.new hp) (hs.new hp) (.tup upd_same hl ((Ext.new hp).reps hs r))
theorem Give.newLst {ds : List D} (g : Give T a0 M H st (.lst ds) Q) (hs : Hs a0 M T H st) {xs : List V} (r : Reps a0 M H xs ds) (hl : ds.length ≤ line) {p : Addr} (hp : H p = none) : Q (.ref p) (upd H p (.lst xs)) :=
  g _ _ (Ext.new hp) (hs.new hp) (.lst upd_same (hs.fresh hp) hl ((Ext.new hp).reps hs r))
variable {X : Cx}
theorem small_ok {i : Int} (h : small i = true) : -(2 ^ 62) ≤ i ∧ i < 2 ^ 62 := by
  unfold small at h
  simpa using h
theorem s_add : OpR X (binaryOp .Add) (rO2 T .add) := by
  intro pins s σ H x y v u Q I rx ry h
  obtain ⟨a0, M, st, d1, d2, d, hs, r1, r2, e, g⟩ := h
  cases d1 with
  | int i =>
    cases d2 with
    | int j => cases r1; cases r2; cases e; exact op_add pins s σ H _ _ v u Q I rx ry ⟨i, j, rfl, rfl, g.here hs (.int _)⟩
    | _ => cases e
  | tup a =>
    cases d2 with
    | tup b =>
      cases r1 with
      | @tup p xs _ h1 l1 q1 =>
        cases r2 with
        | @tup p' ys _ h2 l2 q2 =>
          simp only [op2] at e
          split at e
          · rename_i hl
            cases e
            have e1 := q1.length
            have e2 := q2.length
            refine op_catA pins s σ H _ _ v u Q I rx ry ⟨p, p', xs, ys, rfl, rfl, SqT.of h1, SqT.of h2, Nat.le_trans (by omega) line_le, fun z => ?_, fun _ z => ?_, fun _ _ q hq => ?_⟩
            · subst z
              cases q1
              exact g.here hs (.tup h2 l2 q2)
            · subst z
              cases q2
              rw [List.append_nil] at g
              exact g.here hs (.tup h1 l1 q1)
            · exact g.newTup hs (q1.append q2) (by rw [List.length_append]; exact hl) hq
          · cases e
    | _ => cases e
  | lst a =>
    cases d2 with
    | lst b =>
      cases r1 with
      | @lst p xs _ h1 n1 l1 q1 =>
        cases r2 with
        | @lst p' ys _ h2 n2 l2 q2 =>
          simp only [op2] at e
          split at e
          · rename_i hl
            cases e
            have e1 := q1.length
            have e2 := q2.length
            exact op_cat pins s σ H _ _ v u Q I rx ry ⟨p, p', xs, ys, rfl, rfl, h1, h2, Nat.le_trans (by omega) line_le, fun q hq => g.newLst hs (q1.append q2) (by rw [List.length_append]; exact hl) hq⟩
          · cases e
    | _ => cases e
  | _ => cases d2 <;> cases e
theorem s_sub : OpR X (binaryOp .Sub) (rO2 T .sub) := by
  intro pins s σ H x y v u Q I rx ry h
  obtain ⟨a0, M, st, d1, d2, d, hs, r1, r2, e, g⟩ := h
  cases d1 with
  | int i =>
    cases d2 with
    | int j => cases r1; cases r2; cases e; exact op_sub pins s σ H _ _ v u Q I rx ry ⟨i, j, rfl, rfl, g.here hs (.int _)⟩
    | _ => cases e
  | _ => cases d2 <;> cases e
theorem s_mul : OpR X (binaryOp .Mult) (rO2 T .mul) := by
  intro pins s σ H x y v u Q I rx ry h
  obtain ⟨a0, M, st, d1, d2, d, hs, r1, r2, e, g⟩ := h
  cases d1 with
  | int i =>
    cases d2 with
    | int j =>
      cases r1; cases r2
      simp only [op2] at e
      split at e
      · rename_i hj
        cases e
        have hj' := small_ok hj
        exact op_mul pins s σ H _ _ v u Q I rx ry ⟨i, j, rfl, rfl, .inr ⟨by omega, by omega⟩, g.here hs (.int _)⟩
      · cases e
    | _ => cases e
  | tup a =>
    cases d2 with
    | int k =>
      cases r2
      cases r1 with
      | @tup p xs _ h1 l1 q1 =>
        simp only [op2] at e
        split at e
        · rename_i hl
          cases e
          obtain ⟨hne, k0, k1, la⟩ := hl
          have e1 := q1.length
          refine op_repA pins s σ H _ _ v u Q I rx ry ⟨p, k, xs, rfl, rfl, SqT.of h1, fun z => ?_, k0, k1, by omega, fun z => ?_, fun _ q hq => ?_⟩
          · subst z; cases q1; exact hne rfl
          · subst z
            have er : rep (1 : Int).toNat a = a := by simp [rep]
            rw [er] at g
            exact g.here hs (.tup h1 l1 q1)
          · refine g.newTup hs (q1.flatten_replicate k.toNat) ?_ hq
            show (rep k.toNat a).length ≤ line
            unfold rep
            rw [PyProof.Rows.lm_len_rep_flat]
            have : k.toNat * a.length ≤ 100 * 100 := Nat.mul_le_mul (by omega) la
            exact Nat.le_trans this (by decide)
        · cases e
    | _ => cases e
  | _ => cases d2 <;> cases e
theorem s_mod : OpR X (binaryOp .Mod) (rO2 T .mod) := by
  intro pins s σ H x y v u Q I rx ry h
  obtain ⟨a0, M, st, d1, d2, d, hs, r1, r2, e, g⟩ := h
  cases d1 with
  | int i =>
    cases d2 with
    | int j =>
      cases r1; cases r2
      simp only [op2] at e
      split at e
      · rename_i hj
        cases e
        exact op_mod pins s σ H _ _ v u Q I rx ry ⟨i, j, rfl, rfl, hj.1, g.here hs (.int _)⟩
      · cases e
    | _ => cases e
  | _ => cases d2 <;> cases e
theorem s_fdiv : OpR X (binaryOp .FloorDiv) (rO2 T .fdiv) := by
  intro pins s σ H x y v u Q I rx ry h
  obtain ⟨a0, M, st, d1, d2, d, hs, r1, r2, e, g⟩ := h
  cases d1 with
  | int i =>
    cases d2 with
    | int j =>
      cases r1; cases r2
      simp only [op2] at e
      split at e
      · rename_i hj
        cases e
        exact op_fdiv pins s σ H _ _ v u Q I rx ry ⟨i, j, rfl, rfl, ⟨hj.1, hj.2⟩, g.here hs (.int _)⟩
      · cases e
    | _ => cases e
  | _ => cases d2 <;> cases e
theorem binO_sound {op : Operator} {o : O2} (h : binO op = some o) : OpR X (binaryOp op) (rO2 T o) := by
  cases op <;> cases h <;> first | exact s_add | exact s_sub | exact s_mul | exact s_mod | exact s_fdiv

/-! ### comparisons -/
theorem eqO_parts {a b : D} {k : Bool} (h : eqO a b = some k) : nosrc a = true ∧ nosrc b = true ∧ min (dep a) (dep b) ≤ 64 ∧ eqv a b = k := by
  unfold eqO at h
  split at h
  · rename_i c
    simp only [Bool.and_eq_true, decide_eq_true_eq] at c
    exact ⟨c.1.1, c.1.2, c.2, Option.some.inj h⟩
  · cases h
theorem s_eq {k : Nat} (hr : Room k X.A) : OpR X (compareOp .Eq) (rO2 T .eq) := by
  intro pins s σ H x y v u Q I rx ry h
  obtain ⟨a0, M, st, d1, d2, d, hs, r1, r2, e, g⟩ := h
  have e : (eqO d1 d2).map D.bl = some d := by simpa [op2] using e
  obtain ⟨b, e', rfl⟩ := Option.map_eq_some_iff.mp e
  obtain ⟨n1, n2, hm, rfl⟩ := eqO_parts e'
  obtain ⟨as, q1⟩ := Dp.reads I _ x v (r1.dp (K := X.K) n1) rx
  obtain ⟨bs, q2⟩ := Dp.reads I _ y u (r2.dp (K := X.K) n2) ry
  refine SeqAt.compareEq_reads q1 q2 (toPy_lay _) (toPy_lay _) (by rw [toPy_dep, toPy_dep]; have := hr.units; omega) ?_
  rw [toPy_eqv _ _ n1 n2]
  exact ⟨.bl _, H, I, rfl, g.here hs (.bl _)⟩
theorem s_ne {k : Nat} (hr : Room k X.A) : OpR X (compareOp .NotEq) (rO2 T .ne) := by
  intro pins s σ H x y v u Q I rx ry h
  obtain ⟨a0, M, st, d1, d2, d, hs, r1, r2, e, g⟩ := h
  have e : (eqO d1 d2).map (fun x => D.bl (!x)) = some d := by simpa [op2] using e
  obtain ⟨b, e', rfl⟩ := Option.map_eq_some_iff.mp e
  obtain ⟨n1, n2, hm, rfl⟩ := eqO_parts e'
  obtain ⟨as, q1⟩ := Dp.reads I _ x v (r1.dp (K := X.K) n1) rx
  obtain ⟨bs, q2⟩ := Dp.reads I _ y u (r2.dp (K := X.K) n2) ry
  refine SeqAt.compareNe_reads q1 q2 (toPy_lay _) (toPy_lay _) (by rw [toPy_dep, toPy_dep]; have := hr.units; omega) ?_
  rw [toPy_eqv _ _ n1 n2]
  exact ⟨.bl _, H, I, rfl, g.here hs (.bl _)⟩
theorem s_ord {op : CmpOp} {o : O2} {p : Int → Int → Bool} (hop : OpR X (compareOp op) (rI0 fun i j => .bl (p i j))) (ho : ∀ d1 d2 d, op2 o d1 d2 = some d → ∃ i j, d1 = .int i ∧ d2 = .int j ∧ d = .bl (p i j)) : OpR X (compareOp op) (rO2 T o) := by
  intro pins s σ H x y v u Q I rx ry h
  obtain ⟨a0, M, st, d1, d2, d, hs, r1, r2, e, g⟩ := h
  obtain ⟨i, j, rfl, rfl, rfl⟩ := ho _ _ _ e
  cases r1; cases r2
  exact hop pins s σ H _ _ v u Q I rx ry ⟨i, j, rfl, rfl, g.here hs (.bl _)⟩
theorem s_lt : OpR X (compareOp .Lt) (rO2 T .lt) := s_ord op_lt fun d1 d2 d e => by
  cases d1 <;> cases d2 <;> cases e
  exact ⟨_, _, rfl, rfl, rfl⟩
theorem s_le : OpR X (compareOp .LtE) (rO2 T .le) := s_ord op_le fun d1 d2 d e => by
  cases d1 <;> cases d2 <;> cases e
  exact ⟨_, _, rfl, rfl, rfl⟩
theorem s_gt : OpR X (compareOp .Gt) (rO2 T .gt) := s_ord op_gt fun d1 d2 d e => by
  cases d1 <;> cases d2 <;> cases e
  exact ⟨_, _, rfl, rfl, rfl⟩
theorem s_ge : OpR X (compareOp .GtE) (rO2 T .ge) := s_ord op_ge fun d1 d2 d e => by
  cases d1 <;> cases d2 <;> cases e
  exact ⟨_, _, rfl, rfl, rfl⟩
theorem inV_ints (i : Int) : ∀ l : List Int, inV (.int i) (l.map V.int) = l.contains i
  | [] => rfl
  | x :: r => by
    have ih := inV_ints i r
    show (eqV (.int x) (.int i) || inV (.int i) (r.map V.int)) = _
    rw [ih, List.contains_cons]
    congr 1
    show (x == i) = (i == x)
    rw [Bool.eq_iff_iff, beq_iff_eq, beq_iff_eq]; exact ⟨fun z => z.symm, fun z => z.symm⟩
theorem flat_ints : ∀ l : List Int, (l.map V.int).all flatV = true
  | [] => rfl
  | x :: r => by rw [List.map_cons, List.all_cons, flat_ints r]; rfl
theorem inV_strs (t : Tag) : ∀ l : List Tag, inV (.str t.toStr) (l.map fun t => V.str t.toStr) = l.contains t
  | [] => rfl
  | x :: r => by
    have ih := inV_strs t r
    show (eqV (.str x.toStr) (.str t.toStr) || inV (.str t.toStr) (r.map fun t => V.str t.toStr)) = _
    rw [ih, List.contains_cons]
    congr 1
    show (decide (x.toStr = t.toStr)) = (t == x)
    rw [Bool.eq_iff_iff]
    simp only [decide_eq_true_eq, beq_iff_eq]
    exact ⟨fun z => (Tag.toStr_inj z).symm, fun z => by rw [z]⟩
theorem flat_strs : ∀ l : List Tag, (l.map fun t => V.str t.toStr).all flatV = true
  | [] => rfl
  | x :: r => by rw [List.map_cons, List.all_cons, flat_strs r]; rfl
/-- what the library's two rules for «in» say -/
theorem in_parts {H : Hp} {x y : V} {d1 d2 : D} {b : Bool} (K : PySem.W.Frag) (r1 : Rep a0 M H x d1) (r2 : Rep a0 M H y d2) (e : inO d1 d2 = some b) :
    (∃ p xs, y = .ref p ∧ SqT K H p xs ∧ flatV x = true ∧ xs.all flatV = true ∧ inV x xs = b) ∨
    (∃ da ds, Dp K H x da ∧ Dp K H y (.list ds) ∧ SeqAt.shaped da = true ∧ SeqAt.shaped (.list ds) = true ∧ (ds.any fun z => PyData.eqv z da) = b) := by
  cases d2 with
  | tup ds =>
    cases r2 with
    | @tup p xs _ h2 l2 q2 =>
      refine .inl ⟨p, xs, rfl, SqT.of h2, ?_⟩
      cases d1 with
      | int i =>
        cases r1
        have e : (intsD ds).map (fun l => l.contains i) = some b := by simpa [inO] using e
        obtain ⟨l, e', rfl⟩ := Option.map_eq_some_iff.mp e
        rw [q2.ints_of e']
        exact ⟨rfl, flat_ints l, inV_ints i l⟩
      | str t =>
        cases r1
        have e : (strsD ds).map (fun l => l.contains t) = some b := by simpa [inO] using e
        obtain ⟨l, e', rfl⟩ := Option.map_eq_some_iff.mp e
        rw [q2.strs_of e']
        exact ⟨rfl, flat_strs l, inV_strs t l⟩
      | _ => cases e
  | lst ds =>
    have e : (if nosrc d1 && nosrcs ds && decide (dep d1 ≤ 64) && decide (deps ds + 1 ≤ 64) then some (ds.any fun z => eqv z d1) else none) = some b := by
      cases d1 <;> simpa [inO] using e
    split at e
    · rename_i c
      simp only [Bool.and_eq_true, decide_eq_true_eq] at c
      obtain ⟨⟨⟨c1, c2⟩, c3⟩, c4⟩ := c
      cases e
      have r2' : Dp K H y (toPy (.lst ds)) := r2.dp (by simpa [nosrc] using c2)
      refine .inr ⟨toPy d1, toPys ds, r1.dp c1, by rw [toPy] at r2'; exact r2', ?_, ?_, toPys_any d1 c1 ds c2⟩
      · unfold SeqAt.shaped
        rw [toPy_lay, toPy_dep]; simpa using c3
      · have z := toPy_lay (.lst ds)
        have z2 := toPy_dep (.lst ds)
        rw [toPy] at z z2
        unfold SeqAt.shaped
        rw [z, z2]
        simpa [dep] using c4
    · cases e
  | _ => cases d1 <;> cases e
theorem s_in {k : Nat} (hr : Room k X.A) : OpR X (compareOp .In) (rO2 T .isin) := by
  intro pins s σ H x y v u Q I rx ry h
  obtain ⟨a0, M, st, d1, d2, d, hs, r1, r2, e, g⟩ := h
  have e : (inO d1 d2).map D.bl = some d := by simpa [op2] using e
  obtain ⟨b, e', rfl⟩ := Option.map_eq_some_iff.mp e
  rcases in_parts X.K r1 r2 e' with ⟨p, xs, rfl, a1, a2, a3, rfl⟩ | ⟨da, ds, a1, a2, a3, a4, rfl⟩
  · exact op_in_seq pins s σ H _ _ v u Q I rx ry ⟨p, xs, rfl, .inr a1, a2, a3, g.here hs (.bl _)⟩
  · exact op_inD (by have := hr.un; omega) pins s σ H _ _ v u Q I rx ry ⟨da, ds, a1, a2, a3, a4, g.here hs (.bl _)⟩
theorem s_notin {k : Nat} (hr : Room k X.A) : OpR X (compareOp .NotIn) (rO2 T .notin) := by
  intro pins s σ H x y v u Q I rx ry h
  obtain ⟨a0, M, st, d1, d2, d, hs, r1, r2, e, g⟩ := h
  have e : (inO d1 d2).map (fun x => D.bl (!x)) = some d := by simpa [op2] using e
  obtain ⟨b, e', rfl⟩ := Option.map_eq_some_iff.mp e
  rcases in_parts X.K r1 r2 e' with ⟨p, xs, rfl, a1, a2, a3, rfl⟩ | ⟨da, ds, a1, a2, a3, a4, rfl⟩
  · exact op_notIn_seq pins s σ H _ _ v u Q I rx ry ⟨p, xs, rfl, .inr a1, a2, a3, g.here hs (.bl _)⟩
  · exact op_notInD (by have := hr.un; omega) pins s σ H _ _ v u Q I rx ry ⟨da, ds, a1, a2, a3, a4, g.here hs (.bl _)⟩
theorem cmpO_sound {k : Nat} (hr : Room k X.A) {op : CmpOp} {o : O2} (h : cmpO op = some o) : OpR X (compareOp op) (rO2 T o) := by
  cases op <;> cases h <;> first | exact s_eq hr | exact s_ne hr | exact s_lt | exact s_le | exact s_gt | exact s_ge | exact s_in hr | exact s_notin hr
theorem ordO_cmpO {op : CmpOp} {o : O2} (h : ordO op = some o) : cmpO op = some o ∧ ∀ d1 d2 d, op2 o d1 d2 = some d → ∃ b, d = .bl b := by
  cases op <;> cases h <;> (refine ⟨rfl, fun d1 d2 d e => ?_⟩; cases d1 <;> cases d2 <;> cases e; exact ⟨_, rfl⟩)

/-! ### items, slices -/
theorem place_ixN (n : Nat) (i : Int) : place n i = ixN n i := rfl
theorem atI_rep {H : Hp} {xs : List V} {ds : List D} {i : Int} {d : D} (q : Reps a0 M H xs ds) (e : (place ds.length i).bind (ds[·]?) = some d) : ∃ v, atI xs i = some v ∧ Rep a0 M H v d := by
  obtain ⟨j, e1, e2⟩ := Option.bind_eq_some_iff.mp e
  obtain ⟨v, e3, r⟩ := q.get e2
  refine ⟨v, ?_, r⟩
  unfold atI
  rw [q.length, ← place_ixN, e1]
  exact e3
theorem s_ix : IxR X (rO2 T .ix) := by
  intro va sl pins s σ H x y v u Q I rx ry h hsub
  obtain ⟨a0, M, st, d1, d2, d, hs, r1, r2, e, g⟩ := h
  cases d1 with
  | tup ds =>
    cases d2 with
    | int i =>
      cases r2
      cases r1 with
      | @tup p xs _ h1 l1 q1 =>
        obtain ⟨w', e1, r⟩ := atI_rep q1 (by simpa [op2] using e)
        exact ix_tup va sl pins s σ H _ _ v u Q I rx ry ⟨p, xs, i, w', rfl, rfl, SqT.of h1, e1, g.here hs r⟩ hsub
    | _ => cases e
  | lst ds =>
    cases d2 with
    | int i =>
      cases r2
      cases r1 with
      | @lst p xs _ h1 n1 l1 q1 =>
        obtain ⟨w', e1, r⟩ := atI_rep q1 (by simpa [op2] using e)
        exact ix_list va sl pins s σ H _ _ v u Q I rx ry ⟨p, xs, i, w', rfl, rfl, SqL.of h1, e1, g.here hs r⟩ hsub
    | _ => cases e
  | _ => cases d2 <;> cases e
def rSl (T : TL) : V → Option Int → Option Int → Hp → VK → Prop := fun x lo hi H Q => ∃ a0 M st d1 d, Hs a0 M T H st ∧ Rep a0 M H x d1 ∧ sliceO d1 lo hi = some d ∧ Give T a0 M H st d Q
theorem clip_sIx (n d : Nat) (o : Option Int) : clip n d o = HT.sIx n d o := by cases o <;> rfl
theorem cut_rep {H : Hp} {xs : List V} {ds : List D} {lo hi : Option Int} (q : Reps a0 M H xs ds) : Reps a0 M H (cutV xs lo hi) (cut ds lo hi) := by
  unfold cutV cut
  rw [q.length, ← clip_sIx, ← clip_sIx]
  exact (q.drop _).take _
theorem cut_len (ds : List D) (lo hi : Option Int) : (cut ds lo hi).length ≤ ds.length := by
  unfold cut
  rw [List.length_take, List.length_drop]
  omega
theorem s_slice : SlR X (rSl T) := by
  intro pins s σ H x v vl vu lo hi sl Q I rx hsl pl pu h
  obtain ⟨a0, M, st, d1, d, hs, r1, e, g⟩ := h
  cases d1 with
  | tup ds =>
    cases e
    cases r1 with
    | @tup p xs _ h1 l1 q1 =>
      refine sl_tupA pins s σ H _ v vl vu lo hi sl Q I rx hsl pl pu ⟨p, xs, rfl, SqT.of h1, fun z => ?_, fun z q hq => ?_⟩
      · have ec : cut ds lo hi = ds := by
          unfold cut
          rw [clip_sIx, clip_sIx, ← q1.length, z.1, z.2, List.drop_zero, Nat.sub_zero, q1.length]
          exact List.take_length
        rw [ec] at g
        exact g.here hs (.tup h1 l1 q1)
      · exact g.newTup hs (cut_rep q1) (Nat.le_trans (cut_len ds lo hi) l1) hq
  | lst ds =>
    cases e
    cases r1 with
    | @lst p xs _ h1 n1 l1 q1 => exact sl_list pins s σ H _ v vl vu lo hi sl Q I rx hsl pl pu ⟨p, xs, rfl, SqL.of h1, fun q hq => g.newLst hs (cut_rep q1) (Nat.le_trans (cut_len ds lo hi) l1) hq⟩
  | _ => cases e
end
end Nk
end
section
set_option Elab.async false
set_option linter.all false
set_option maxRecDepth 100000
set_option maxHeartbeats 4000000
/-! one-place operations -/
namespace Nk
open PySem PySem.Spec PyProof.Rows L2
section
variable {T : TL} {a0 : Addr} {M : Addr → Prop} {H : Hp} {st : Sr} {d : D} {Q : VK} {X : Cx}
/-- a call of one argument -/
def rC (T : TL) (o : O1) : List V → Hp → VK → Prop := fun xs H Q => ∃ x, xs = [x] ∧ rO1 T o x H Q
theorem s_len : CallR X (.builtin "len") (rC T .len) := by
  intro pins s σ H xs us Q I r h
  obtain ⟨x, rfl, a0, M, st, d1, d, hs, r1, e, g⟩ := h
  cases d1 with
  | tup ds =>
    cases e
    cases r1 with
    | @tup p xs _ h1 l1 q1 => exact call_len_seq pins s σ H _ us Q I r ⟨p, xs, rfl, .inr (SqT.of h1), by rw [q1.length]; exact g.here hs (.int _)⟩
  | lst ds =>
    cases e
    cases r1 with
    | @lst p xs _ h1 n1 l1 q1 => exact call_len_seq pins s σ H _ us Q I r ⟨p, xs, rfl, .inl (SqL.of h1), by rw [q1.length]; exact g.here hs (.int _)⟩
  | _ => cases e
theorem s_sum (hc : X.calm = true) : CallR X (.builtin "sum") (rC T .sum) := by
  intro pins s σ H xs us Q I r h
  obtain ⟨x, rfl, a0, M, st, d1, d, hs, r1, e, g⟩ := h
  cases d1 with
  | lst ds =>
    have e : (intsD ds).map (fun l => D.int l.sum) = some d := e
    obtain ⟨l, e', rfl⟩ := Option.map_eq_some_iff.mp e
    cases r1 with
    | @lst p xs _ h1 n1 l1 q1 => exact cr_sum hc pins s σ H _ us Q I r ⟨p, l, rfl, by rw [← q1.ints_of e']; exact SqL.of h1, g.here hs (.int _)⟩
  | _ => cases e
theorem s_all (hc : X.calm = true) : CallR X (.builtin "all") (rC T .all) := by
  intro pins s σ H xs us Q I r h
  obtain ⟨x, rfl, a0, M, st, d1, d, hs, r1, e, g⟩ := h
  cases d1 with
  | lst ds =>
    have e : (blsD ds).map (fun l => D.bl (l.all id)) = some d := e
    obtain ⟨l, e', rfl⟩ := Option.map_eq_some_iff.mp e
    cases r1 with
    | @lst p xs _ h1 n1 l1 q1 => exact cr_all hc pins s σ H _ us Q I r ⟨p, l, rfl, by rw [← q1.bls_of e']; exact SqL.of h1, g.here hs (.bl _)⟩
  | _ => cases e
theorem maxi_spec : ∀ (l : List Int) (m : Int), (maxi m l = m ∨ maxi m l ∈ l) ∧ m ≤ maxi m l ∧ ∀ y ∈ l, y ≤ maxi m l
  | [], m => ⟨.inl rfl, Int.le_refl _, fun _ h => nomatch h⟩
  | x :: r, m => by
    obtain ⟨h1, h2, h3⟩ := maxi_spec r (if x > m then x else m)
    show (maxi (if x > m then x else m) r = m ∨ maxi (if x > m then x else m) r ∈ x :: r) ∧ m ≤ maxi (if x > m then x else m) r ∧ ∀ y ∈ x :: r, y ≤ maxi (if x > m then x else m) r
    refine ⟨?_, ?_, fun y hy => ?_⟩
    · rcases h1 with h1 | h1
      · rw [h1]
        split
        · exact .inr List.mem_cons_self
        · exact .inl rfl
      · exact .inr (List.mem_cons_of_mem _ h1)
    · by_cases hx : x > m
      · simp only [if_pos hx] at h2 ⊢; omega
      · simp only [if_neg hx] at h2 ⊢; omega
    · rcases List.mem_cons.mp hy with rfl | hy
      · by_cases hx : y > m
        · simp only [if_pos hx] at h2 ⊢; omega
        · simp only [if_neg hx] at h2 ⊢; omega
      · exact h3 y hy
theorem s_max (hc : X.calm = true) : CallR X (.builtin "max") (rC T .max) := by
  intro pins s σ H xs us Q I r h
  obtain ⟨x, rfl, a0, M, st, d1, d, hs, r1, e, g⟩ := h
  cases d1 with
  | lst ds =>
    have e : (match intsD ds with | some (x :: r) => some (D.int (maxi x r)) | _ => none) = some d := e
    split at e
    · rename_i x' r' e'
      cases e
      cases r1 with
      | @lst p xs _ h1 n1 l1 q1 =>
        refine cr_max hc pins s σ H _ us Q I r ⟨p, x' :: r', rfl, by rw [← q1.ints_of e']; exact SqL.of h1, Nat.succ_pos _, fun m hm hle => ?_⟩
        obtain ⟨z1, z2, z3⟩ := maxi_spec r' x'
        have em : m = maxi x' r' := by
          have a1 : maxi x' r' ≤ m := hle _ (by rcases z1 with z | z; · rw [z]; exact List.mem_cons_self
                                                · exact List.mem_cons_of_mem _ z)
          have a2 : m ≤ maxi x' r' := by
            rcases List.mem_cons.mp hm with rfl | hm
            · exact z2
            · exact z3 m hm
          omega
        rw [em]
        exact g.here hs (.int _)
    · cases e
  | _ => cases e
theorem s_tuple : CallR X (.type "tuple") (rC T .tuple) := by
  intro pins s σ H xs us Q I r h
  obtain ⟨x, rfl, a0, M, st, d1, d, hs, r1, e, g⟩ := h
  cases d1 with
  | lst ds =>
    cases e
    cases r1 with
    | @lst p xs _ h1 n1 l1 q1 => exact call_tuple_of pins s σ H _ us Q I r ⟨p, xs, rfl, .inl ⟨SqL.of h1, fun l hl => g.newTup hs q1 l1 hl⟩⟩
  | tup ds =>
    cases e
    cases r1 with
    | @tup p xs _ h1 l1 q1 => exact call_tuple_of pins s σ H _ us Q I r ⟨p, xs, rfl, .inr ⟨SqT.of h1, g.here hs (.tup h1 l1 q1)⟩⟩
  | _ => cases e
theorem s_list : CallR X (.type "list") (rC T .list) := by
  intro pins s σ H xs us Q I r h
  obtain ⟨x, rfl, a0, M, st, d1, d, hs, r1, e, g⟩ := h
  cases d1 with
  | lst ds =>
    cases e
    cases r1 with
    | @lst p xs _ h1 n1 l1 q1 => exact call_list_of pins s σ H _ us Q I r ⟨p, xs, rfl, .inl (SqL.of h1), fun l hl => g.newLst hs q1 l1 hl⟩
  | tup ds =>
    cases e
    cases r1 with
    | @tup p xs _ h1 l1 q1 => exact call_list_of pins s σ H _ us Q I r ⟨p, xs, rfl, .inr (SqT.of h1), fun l hl => g.newLst hs q1 l1 hl⟩
  | _ => cases e
theorem s_int : CallR X (.type "int") (rC T .int) := by
  intro pins s σ H xs us Q I r h
  obtain ⟨x, rfl, a0, M, st, d1, d, hs, r1, e, g⟩ := h
  cases d1 with
  | int i => cases e; cases r1; exact call_int1 pins s σ H _ us Q I r (.inl ⟨i, rfl, g.here hs (.int _)⟩)
  | _ => cases e
theorem s_neg : UnR X (unaryOp .USub) (rO1 T .neg) := by
  intro pins s σ H x v Q I rx h
  obtain ⟨a0, M, st, d1, d, hs, r1, e, g⟩ := h
  cases d1 with
  | int i => cases e; cases r1; exact un_neg pins s σ H _ v Q I rx ⟨i, rfl, g.here hs (.int _)⟩
  | _ => cases e
theorem isnone_rep {H : Hp} {x : V} {d1 : D} (r : Rep a0 M H x d1) : isN d1 = decide (x = .non) := by cases r <;> rfl
theorem s_isnone : OpR X (compareOp .Is) (fun x y H Q => y = .non ∧ rO1 T .isnone x H Q) := by
  intro pins s σ H x y v u Q I rx ry h
  obtain ⟨hy, a0, M, st, d1, d, hs, r1, e, g⟩ := h
  have e : some (D.bl (isN d1)) = some d := by cases d1 <;> exact e
  cases e
  rw [isnone_rep r1] at g
  exact op_isN pins s σ H x y v u Q I rx ry ⟨hy, g.here hs (.bl _)⟩
theorem s_notnone : OpR X (compareOp .IsNot) (fun x y H Q => y = .non ∧ rO1 T .notnone x H Q) := by
  intro pins s σ H x y v u Q I rx ry h
  obtain ⟨hy, a0, M, st, d1, d, hs, r1, e, g⟩ := h
  have e : some (D.bl (!isN d1)) = some d := by cases d1 <;> exact e
  cases e
  rw [isnone_rep r1] at g
  exact op_notN pins s σ H x y v u Q I rx ry ⟨hy, g.here hs (.bl _)⟩
/-! ### isinstance -/
theorem kit_all {K : PySem.W.Frag} : PySem.W.kitOne K (.type "NoneType") (.type "int") = some false ∧ PySem.W.kitOne K (.type "bool") (.type "int") = some true ∧ PySem.W.kitOne K (.type "int") (.type "int") = some true ∧ PySem.W.kitOne K (.type "str") (.type "int") = some false ∧ PySem.W.kitOne K (.type "tuple") (.type "int") = some false ∧ PySem.W.kitOne K (.type "list") (.type "int") = some false :=
  ⟨kit_ty (by decide +kernel), kit_ty (by decide +kernel), kit_ty (by decide +kernel), kit_ty (by decide +kernel), kit_ty (by decide +kernel), kit_ty (by decide +kernel)⟩
theorem kit_allB {K : PySem.W.Frag} : PySem.W.kitOne K (.type "NoneType") (.type "bool") = some false ∧ PySem.W.kitOne K (.type "bool") (.type "bool") = some true ∧ PySem.W.kitOne K (.type "int") (.type "bool") = some false ∧ PySem.W.kitOne K (.type "str") (.type "bool") = some false ∧ PySem.W.kitOne K (.type "tuple") (.type "bool") = some false ∧ PySem.W.kitOne K (.type "list") (.type "bool") = some false :=
  ⟨kit_ty (by decide +kernel), kit_ty (by decide +kernel), kit_ty (by decide +kernel), kit_ty (by decide +kernel), kit_ty (by decide +kernel), kit_ty (by decide +kernel)⟩
theorem kit_allT {K : PySem.W.Frag} : PySem.W.kitOne K (.type "NoneType") (.type "tuple") = some false ∧ PySem.W.kitOne K (.type "bool") (.type "tuple") = some false ∧ PySem.W.kitOne K (.type "int") (.type "tuple") = some false ∧ PySem.W.kitOne K (.type "str") (.type "tuple") = some false ∧ PySem.W.kitOne K (.type "tuple") (.type "tuple") = some true ∧ PySem.W.kitOne K (.type "list") (.type "tuple") = some false :=
  ⟨kit_ty (by decide +kernel), kit_ty (by decide +kernel), kit_ty (by decide +kernel), kit_ty (by decide +kernel), kit_ty (by decide +kernel), kit_ty (by decide +kernel)⟩
theorem kit_allS {K : PySem.W.Frag} : PySem.W.kitOne K (.type "NoneType") (.type "str") = some false ∧ PySem.W.kitOne K (.type "bool") (.type "str") = some false ∧ PySem.W.kitOne K (.type "int") (.type "str") = some false ∧ PySem.W.kitOne K (.type "str") (.type "str") = some true ∧ PySem.W.kitOne K (.type "tuple") (.type "str") = some false ∧ PySem.W.kitOne K (.type "list") (.type "str") = some false :=
  ⟨kit_ty (by decide +kernel), kit_ty (by decide +kernel), kit_ty (by decide +kernel), kit_ty (by decide +kernel), kit_ty (by decide +kernel), kit_ty (by decide +kernel)⟩
def isiT : O1 → String
  | .isint => "int"
  | .isbool => "bool"
  | .istup => "tuple"
  | _ => "str"
theorem s_isi {o : O1} (ho : o = .isint ∨ o = .isbool ∨ o = .istup ∨ o = .isstr) : CallR X (.builtin "isinstance") (fun xs H Q => ∃ x, xs = [x, .ty (isiT o)] ∧ rO1 T o x H Q) := by
  intro pins s σ H xs us Q I r h
  obtain ⟨x, rfl, a0, M, st, d1, d, hs, r1, e, g⟩ := h
  have go : ∀ (t : Value) (b : Bool), TyOf X.K H x t → PySem.W.kitOne X.K t (.type (isiT o)) = some b → d = .bl b → wpAny (model X.prog X.w) X.A (call (.builtin "isinstance") us) (EP X pins σ Q) X.xe s := fun t b ty kk ed => by
    subst ed
    exact call_isi pins s σ H _ us Q I r ⟨x, _, t, _, b, rfl, .ty _, .base ty, kk, g.here hs (.bl _)⟩
  have k1 := kit_all (K := X.K)
  have k2 := kit_allB (K := X.K)
  have k3 := kit_allT (K := X.K)
  have k4 := kit_allS (K := X.K)
  cases r1 with
  | non =>
    rcases ho with rfl | rfl | rfl | rfl <;> cases e
    · exact go _ _ .non k1.1 rfl
    · exact go _ _ .non k2.1 rfl
    · exact go _ _ .non k3.1 rfl
    · exact go _ _ .non k4.1 rfl
  | bl b =>
    rcases ho with rfl | rfl | rfl | rfl <;> cases e
    · exact go _ _ (.bl _) k1.2.1 rfl
    · exact go _ _ (.bl _) k2.2.1 rfl
    · exact go _ _ (.bl _) k3.2.1 rfl
    · exact go _ _ (.bl _) k4.2.1 rfl
  | int i =>
    rcases ho with rfl | rfl | rfl | rfl <;> cases e
    · exact go _ _ (.int _) k1.2.2.1 rfl
    · exact go _ _ (.int _) k2.2.2.1 rfl
    · exact go _ _ (.int _) k3.2.2.1 rfl
    · exact go _ _ (.int _) k4.2.2.1 rfl
  | str i =>
    rcases ho with rfl | rfl | rfl | rfl <;> cases e
    · exact go _ _ (.str _) k1.2.2.2.1 rfl
    · exact go _ _ (.str _) k2.2.2.2.1 rfl
    · exact go _ _ (.str _) k3.2.2.2.1 rfl
    · exact go _ _ (.str _) k4.2.2.2.1 rfl
  | tup h1 l q =>
    rcases ho with rfl | rfl | rfl | rfl <;> cases e
    · exact go _ _ (.tup h1) k1.2.2.2.2.1 rfl
    · exact go _ _ (.tup h1) k2.2.2.2.2.1 rfl
    · exact go _ _ (.tup h1) k3.2.2.2.2.1 rfl
    · exact go _ _ (.tup h1) k4.2.2.2.2.1 rfl
  | lst h1 n l q =>
    rcases ho with rfl | rfl | rfl | rfl <;> cases e
    · exact go _ _ (.lst h1) k1.2.2.2.2.2 rfl
    · exact go _ _ (.lst h1) k2.2.2.2.2.2 rfl
    · exact go _ _ (.lst h1) k3.2.2.2.2.2 rfl
    · exact go _ _ (.lst h1) k4.2.2.2.2.2 rfl
  | src => rcases ho with rfl | rfl | rfl | rfl <;> cases e

/-! ### t[::-1] -/
end
theorem fm_some {α β : Type} {f : α → Option β} {g : α → β} : ∀ l : List α, (∀ m ∈ l, f m = some (g m)) → l.filterMap f = l.map g
  | [], _ => rfl
  | x :: r, h => by
    rw [List.filterMap_cons, h x List.mem_cons_self, List.map_cons, fm_some r fun m hm => h m (List.mem_cons_of_mem _ hm)]
theorem rev_pick (l : List Value) : ((List.range l.length).filterMap fun (m : Nat) => l.toArray[(((l.length : Int) - 1) + (m : Int) * (-1)).toNat]?) = l.reverse := by
  have e : ∀ m ∈ List.range l.length, l.toArray[(((l.length : Int) - 1) + (m : Int) * (-1)).toNat]? = some (l.reverse[m]?.getD .none) := fun m hm => by
    have hm := List.mem_range.mp hm
    have h1 : (((l.length : Int) - 1) + (m : Int) * (-1)).toNat = l.length - 1 - m := by omega
    rw [h1, List.getElem?_toArray, List.getElem?_reverse hm]
    have h2 : l.length - 1 - m < l.length := by omega
    rw [List.getElem?_eq_getElem h2]; rfl
  rw [fm_some _ e]
  apply List.ext_getElem?
  intro i
  rw [List.getElem?_map]
  by_cases hi : i < l.length
  · rw [List.getElem?_range hi]
    have h3 : i < l.reverse.length := by simpa using hi
    simp [List.getElem?_eq_getElem h3]
  · rw [List.getElem?_eq_none (by simpa using hi), List.getElem?_eq_none (by simpa using hi)]; rfl
section
variable {prog : Program} {w : World} {A : Around} {E : Value → Shared → Prop} {s : Shared}
theorem sliceApplied_rev {sl : Addr} {n : Nat} {tk : Tok} {Q : Int × Int × Nat → Shared → Prop} (hs : s.heap.IsSliceOf sl .none .none (.int (-1) tk)) (h : Q ((n : Int) - 1, -1, n) s) :
    wpAny (model prog w) A (Builtin.Slice.sliceApplied (.ref sl) (pure (n : Int))) Q E s := by
  obtain ⟨os, hos, hcs, hds⟩ := id hs
  unfold Builtin.Slice.sliceApplied Builtin.Slice.sliceFields
  refine wpAny_bind (wpAny_bind (wpAny_field hos hds (x := .none) rfl (wpAny_bind (wpAny_field hos hds (x := .none) rfl (wpAny_bind (wpAny_field hos hds (x := .int (-1) tk) rfl (wpAny_pure ?_)))))))
  refine wpAny_bind (slicePart_int ?_)
  show wpAny _ _ (if ((-1 : Int) == 0) = true then _ else _) _ _ s
  rw [if_neg (by decide)]
  refine wpAny_bind (slicePart_none (wpAny_bind (slicePart_none (wpAny_bind (wpAny_pure ?_)))))
  have e1 : Builtin.Slice.sliceAdjust none none (-1) (n : Int) = ((n : Int) - 1, -1) := rfl
  show wpAny _ _ (match Builtin.Slice.sliceAdjust none none (-1) (n : Int) with | (lo, hi) => pure (lo, (-1 : Int), Builtin.Slice.slicePlaces lo hi (-1))) _ _ s
  rw [e1]
  show wpAny _ _ (pure ((n : Int) - 1, (-1 : Int), Builtin.Slice.slicePlaces ((n : Int) - 1) (-1) (-1))) _ _ s
  have e2 : Builtin.Slice.slicePlaces ((n : Int) - 1) (-1) (-1) = n := by
    unfold Builtin.Slice.slicePlaces
    rw [if_neg (by decide)]
    split
    · have e3 : (-(-1) : Int) = 1 := rfl
      rw [e3, Int.ediv_one]
      omega
    · omega
  rw [e2]
  exact wpAny_pure h
theorem getItem_tuple_rev {t sl : Addr} {its : List Value} {tk : Tok} {Q : Value → Shared → Prop} (ht : IsTup s.heap t its.toArray) (hs : s.heap.IsSliceOf sl .none .none (.int (-1) tk))
    (h : Q (.ref s.heap.objs.size) { s with heap := s.heap.push { cls := .type "tuple", data := .seq its.reverse.toArray } })
    (hsz : its.length ≤ sizeLine) : wpAny (model prog w) A (getItem (.ref t) (.ref sl)) Q E s := by
  have htake : sizeOk (.seq its.reverse.toArray) := by
    show its.reverse.toArray.size ≤ sizeLine
    rw [List.size_toArray, List.length_reverse]; exact hsz
  obtain ⟨os, hos, hcs, hds⟩ := id hs
  have hTs : s.TypeIs (.ref sl) "slice" := ⟨os, hos, hcs⟩
  unfold getItem
  try with_reducible refine wpAny_holding ?_
  first | refine wpAny_bind (wpAny_pure ?_) | skip
  refine wpAny_bind (wpAny_sequenceKey ht.typeIs (by decide) ?_)
  refine wpAny_bind (wpAny_callSpecial?_slot (name := Str.ofString "__getitem__") ht.typeIs PyProof.Rows.slot_tuple_getitem
    (wpAny_call_entry PyProof.Rows.slot_tuple_getitem ht.typeIs entry_tuple_getitem ?_ (args_tuple_getitem _ _)))
  show wpAny _ _ (Builtin.Tuple.tupleItemsOf (.ref t) >>= _) _ _ s
  refine wpAny_bind (tupleItemsOf_ ht ?_)
  refine wpAny_bind (wpAny_typeOf hTs ?_)
  rw [if_pos (by decide)]
  refine wpAny_bind (sliceApplied_rev hs ?_)
  have hno : ¬ ((((its.toArray.size : Nat) : Int) - 1 == 0 && (-1 : Int) == 1 && its.toArray.size == its.toArray.size) = true) := by
    intro q
    rw [Bool.and_eq_true, Bool.and_eq_true] at q
    exact absurd q.1.2 (by decide)
  show wpAny _ _ (if (((its.toArray.size : Nat) : Int) - 1 == 0 && (-1 : Int) == 1 && its.toArray.size == its.toArray.size) = true then _ else _) _ _ s
  rw [if_neg hno]
  have ep := rev_pick its
  rw [show its.length = its.toArray.size from (List.size_toArray ..).symm] at ep
  rw [ep]
  first
    | exact wpAny_bind (m := Builtin.Tuple.tupleExact _) (wpAny_newObj_type (wpAny_pure ⟨_, rfl, wpAny_pure h⟩) htake)
    | exact wpAny_bind (m := Builtin.Tuple.tupleExact _) (wpAny_newObj_type (wpAny_bind (wpAny_pure (wpAny_pure ⟨_, rfl, wpAny_pure h⟩))) htake)
    | exact wpAny_bind (wpAny_bind (m := Builtin.Tuple.tupleExact _) (wpAny_newObj_type (wpAny_pure (wpAny_pure ⟨_, rfl, wpAny_pure h⟩)) htake))
    | exact wpAny_bind (wpAny_bind (m := Builtin.Tuple.tupleExact _) (wpAny_newObj_type (wpAny_pure ⟨_, rfl, wpAny_pure h⟩) htake))
end
section
variable {X : Cx} {T : TL}
theorem pe_revT {e : Expr} {te : TE} {k : Nat} {p1 p2 p3 pos : Pos} (he : PE X e te) : PE X (.Subscript e (.Slice none none (some (.UnaryOp .USub (.Constant (.int 1) k p1) p2)) p3) pos) (tUn (rO1 T .rev) te) := by
  refine ⟨fun pins s σ H Q I h => ?_⟩
  refine Subscript_ (thn (he.run pins s σ H _ I h) fun v s1 ⟨x, H1, I1, r1, q1⟩ => ?_)
  obtain ⟨a0, M, st, d1, d, hs, rx, ed, g⟩ := q1
  cases d1 with
  | tup ds =>
    cases ed
    cases rx with
    | @tup a xs _ hx hl hrep =>
      cases r1
      have hst : PO X (some (.UnaryOp .USub (.Constant (.int 1) k p1) p2)) (tPart (tUn (rU fun i => .int (-i)) (tC (.int 1)))) := po_some (pe_un un_neg pe_int)
      refine wpAny_Slice (thn (po_none.run pins s1 σ H1 (fun o H2 => o = none ∧ H2 = H1) I1 ⟨rfl, rfl⟩) fun vl s2 ⟨l, H2, I2, pl, el, e2⟩ => ?_)
      subst el e2
      refine thn (po_none.run pins s2 σ H2 (fun o H3 => o = none ∧ H3 = H2) I2 ⟨rfl, rfl⟩) fun vu s3 ⟨u, H3, I3, pu, eu, e3⟩ => ?_
      subst eu e3
      refine thn (hst.run pins s3 σ H3 (fun o H4 => o = some (-1) ∧ H4 = H3) I3 ⟨1, rfl, -1, rfl, rfl, rfl⟩) fun vs s4 ⟨o, H4, I4, ps, eo, e4⟩ => ?_
      subst eo e4
      cases pl
      cases pu
      cases ps with
      | int i tk =>
      have I5 : Inv X pins σ H4 { s4 with heap := s4.heap.push { cls := .type "slice", data := .fields #[.none, .none, .int (-1) tk] } } := I4.kept (t' := s4.toks) fun b ob q => Heap.get?_push_of_some _ q
      obtain ⟨its, r, ht, hz⟩ := I5.tuple (SqT.of hx)
      have hlen := r.length
      show wpAny (model X.prog X.w) X.A (subscriptTail e (.Slice none none (some (.UnaryOp .USub (.Constant (.int 1) k p1) p2)) p3) (.ref a) (.ref s4.heap.objs.size)) (EP X pins σ Q) X.xe { s4 with heap := s4.heap.push { cls := .type "slice", data := .fields #[.none, .none, .int (-1) tk] } }
      refine tail_any (ops := [.ref a, .ref s4.heap.objs.size]) ht.typeIs (PyProof.Rows.slot_tuple_getitem.lookup) ?_ (by with_unfolding_all rfl)
      refine getItem_tuple_rev ht (Heap.IsSliceOf.new _ .none .none (.int (-1) tk)) ?_ (by omega)
      have hf := I5.hok.fresh (Nat.le_refl (s4.heap.push { cls := .type "slice", data := .fields #[.none, .none, .int (-1) tk] }).objs.size)
      refine ⟨.ref _, _, I5.laid (t' := s4.toks) (o := .tup xs.reverse) (fun b ob q => Heap.get?_push_of_some _ q) (Nat.le_refl _) ?_, rfl, g.newTup hs hrep.reverse (by rw [List.length_reverse]; exact hl) hf⟩
      exact ⟨by rw [List.length_reverse]; exact hz, _, r.reverse, IsTup.new _ _⟩
  | _ => cases ed
end
end Nk
end
section
set_option Elab.async false
set_option linter.all false
set_option maxRecDepth 100000
set_option maxHeartbeats 4000000
/-! contexts, expressions -/
namespace Nk
open PySem PySem.Spec PyProof.Rows L2

/-! ### outcomes -/
structure Cl where
  nesting : Addr
  kind : Addr
  program : Addr
  unlike : Addr
  many : Addr
def Cl.of (c : Cl) : Xc → Addr
  | .nesting => c.nesting
  | .kind => c.kind
  | .program => c.program
  | .unlike => c.unlike
  | .many _ => c.many
def XRep (c : Cl) (H : Hp) (x : Xc) (cls : Value) (dx : Option Addr) : Prop := cls = .ref (c.of x) ∧ match x with
  | .many l => ∃ d, dx = some d ∧ H d = some (.xd [("limit", .int l)])
  | _ => dx = none
section
variable (T : TL) (c : Cl) (E0 : XK)
def Res {α : Type} (a0 : Addr) (M : Addr → Prop) (H : Hp) (r : R α) (K : α → Hp → Sr → Prop) : Prop := match r with
  | .ok d st' => ∀ H', Ext a0 H H' → Hs a0 M T H' st' → K d H' st'
  | .err x st' => ∀ cls dx H', Ext a0 H H' → Hs a0 M T H' st' → XRep c H' x cls dx → E0 cls dx H'
  | .stuck => False
end
section
variable {T : TL} {c : Cl} {E0 : XK} {a0 : Addr} {M : Addr → Prop} {H H1 : Hp} {st : Sr} {α β : Type}
theorem Res.mono {r : R α} {K K' : α → Hp → Sr → Prop} (h : Res T c E0 a0 M H r K) (i : ∀ d H1 st1, Ext a0 H H1 → Hs a0 M T H1 st1 → K d H1 st1 → K' d H1 st1) : Res T c E0 a0 M H r K' := by
  cases r with
  | ok d s => exact fun H' e hs => i d H' s e hs (h H' e hs)
  | err x s => exact h
  | stuck => exact h
theorem Res.later {r : R α} {K : α → Hp → Sr → Prop} (h : Res T c E0 a0 M H r K) (x : Ext a0 H H1) : Res T c E0 a0 M H1 r K := by
  cases r with
  | ok d s => exact fun H' e hs => h H' (x.trans e) hs
  | err y s => exact fun cls dx H' e hs q => h cls dx H' (x.trans e) hs q
  | stuck => exact h
theorem Res.bnd {m : Nk.M α} {f : α → Nk.M β} {K : β → Hp → Sr → Prop} (h : Res T c E0 a0 M H (bnd m f st) K) : Res T c E0 a0 M H (m st) fun d H1 st1 => Res T c E0 a0 M H1 (f d st1) K := by
  unfold Nk.bnd at h
  cases e : m st with
  | ok d s =>
    rw [e] at h
    exact fun H' x _ => Res.later h x
  | err y s =>
    rw [e] at h
    exact h
  | stuck =>
    rw [e] at h
    exact h
theorem Res.ret {a : α} {K : α → Hp → Sr → Prop} (h : Res T c E0 a0 M H (ret a st) K) (hs : Hs a0 M T H st) : K a H st := h H Ext.refl hs
theorem Res.ofO {o : Option α} {K : α → Hp → Sr → Prop} (h : Res T c E0 a0 M H (ofO o st) K) (hs : Hs a0 M T H st) : ∃ a, o = some a ∧ ∀ H', Ext a0 H H' → Hs a0 M T H' st → K a H' st := by
  cases o with
  | none => exact h.elim
  | some a => exact ⟨a, rfl, h⟩
end

/-! ### good contexts -/
/-- what a def promises: what the evaluator says -/
def spD (T : TL) (c : Cl) (cal : Nat → List D → M D) (i n : Nat) : Sp := fun vs H Q E => vs.length = n ∧ ∃ a0 M st ds, Hs a0 M T H st ∧ Reps a0 M H vs ds ∧ Res T c E a0 M H (cal i ds st) fun d H' _ => ∀ v, Rep a0 M H' v d → Q v H'
def builtinNames : List Str := ["len", "sum", "all", "max", "tuple", "list", "int", "isinstance", "range", "enumerate", "zip", "bool", "str"]
structure Gd (G : Gx) (X : Cx) (k : Nat) (T : TL) (c : Cl) (cal : Nat → List D → M D) (E0 : XK) : Prop where
  calm : X.calm = true
  nd : X.N.Nodup
  room : Room k X.A
  passes : Passes (L2N.CX X.prog X.w) X E0
  fns : ∀ x i, G.fid x = some i → ∃ f fd ps, X.mg x = some (.ref f) ∧ PySem.W.keepIn X.K (.ref f) = true ∧ Binds X.K fd ps [] ∧ (∀ ds st, cal i ds st ≠ .stuck → ds.length = ps.length) ∧ FnOk X.prog X.w X.K X.mg X.base (L2N.CX X.prog X.w) k f fd ps (spD T c cal i ps.length)
  consts : ∀ x i, G.gc x = some i → ∃ t, X.mg x = some (.int i t)
  free : ∀ x ∈ builtinNames, X.mg x = none
  tags : ∀ x t, G.tag x = some t → t.toStr = x
/-- a def's own context: what is wished of exceptions is taken -/
structure Df' (X : Cx) (E0 : XK) : Prop where
  st : X.stack = X.env :: X.outer
  fr : X.env.frame = some X.env.locals
  tk : L2N.Takes X fun cls d _ H => E0 cls d H
  po : PassesOwn (model X.prog X.w) X.A X.env X.xe
  kind : X.env.scope.kind = .function
structure Fit (X : Cx) (S : Sx) (own : Nat → Bool) (E0 : XK) : Prop where
  N : S.N = X.N
  sc : S.sc = X.env.scope
  own : ∀ i x, X.N[i]? = some x → own i = S.own.contains x
  cell : ∀ x, S.cellOk x = true → X.fn x = true
  df : S.cmp = true → Df' X E0
/-! ### readings -/
section
variable (T : TL) (c : Cl) (cal : Nat → List D → M D) (E0 : XK) (own : Nat → Bool)
def tE (ir : E) : TE := fun σ H Q => ∃ a0 M st ρ, Hs a0 M T H st ∧ EnvR a0 M own H σ ρ ∧ Res T c E0 a0 M H (evE cal ir ρ st) fun d H' _ => ∀ v, Rep a0 M H' v d → Q v H'
def tT (ir : E) : TT := fun σ H Q => ∃ a0 M st ρ, Hs a0 M T H st ∧ EnvR a0 M own H σ ρ ∧ Res T c E0 a0 M H (bnd (evE cal ir ρ) truth st) fun b H' _ => Q b H'
def tEs (irs : Es) : TA := fun σ H Q => ∃ a0 M st ρ, Hs a0 M T H st ∧ EnvR a0 M own H σ ρ ∧ Res T c E0 a0 M H (evEs cal irs ρ st) fun ds H' _ => ∀ vs, Reps a0 M H' vs ds → Q vs H'
def tEo (ir : Eo) : TO := fun σ H Q => ∃ a0 M st ρ, Hs a0 M T H st ∧ EnvR a0 M own H σ ρ ∧ Res T c E0 a0 M H (evEo cal ir ρ st) fun i H' _ => Q i H'
end
theorem PE.imp {X : Cx} {e : Expr} {t t' : TE} (h : PE X e t) (i : ∀ σ H Q, t' σ H Q → t σ H Q) : PE X e t' := ⟨fun pins s σ H Q I q => h.run pins s σ H Q I (i σ H Q q)⟩
theorem PT.imp {X : Cx} {e : Expr} {t t' : TT} (h : PT X e t) (i : ∀ σ H Q, t' σ H Q → t σ H Q) : PT X e t' := ⟨fun pins s σ H Q I q => h.run pins s σ H Q I (i σ H Q q)⟩
theorem PW.imp {X : Cx} {e : Expr} {t t' : TT} (h : PW X e t) (i : ∀ σ H Q, t' σ H Q → t σ H Q) : PW X e t' := ⟨fun wh pins s σ H Q I q => h.run wh pins s σ H Q I (i σ H Q q)⟩
theorem PA.imp {X : Cx} {e : List Expr} {t t' : TA} (h : PA X e t) (i : ∀ σ H Q, t' σ H Q → t σ H Q) : PA X e t' := ⟨fun pos pins s σ H Q I q => h.run pos pins s σ H Q I (i σ H Q q)⟩
theorem PS.imp {X : Cx} {e : Stmt} {t t' : TS} (h : PS X e t) (i : ∀ D σ H, t' D σ H → t D σ H) : PS X e t' := ⟨fun pins s σ H D I q => h.run pins s σ H D I (i D σ H q)⟩
theorem PSs.imp {X : Cx} {e : List Stmt} {t t' : TS} (h : PSs X e t) (i : ∀ D σ H, t' D σ H → t D σ H) : PSs X e t' := ⟨fun pins s σ H D I q => h.run pins s σ H D I (i D σ H q)⟩
theorem PO.imp {X : Cx} {e : Option Expr} {t t' : TO} (h : PO X e t) (i : ∀ σ H Q, t' σ H Q → t σ H Q) : PO X e t' := ⟨fun pins s σ H Q I q => h.run pins s σ H Q I (i σ H Q q)⟩

section
variable {G : Gx} {X : Cx} {k : Nat} {T : TL} {c : Cl} {cal : Nat → List D → M D} {E0 : XK} {own : Nat → Bool}
/-- a value's post at the evaluator's post -/
theorem give_of {a0 : Addr} {M : Addr → Prop} {H : Hp} {st : Sr} {d : D} {Q : VK} (h : ∀ H', Ext a0 H H' → Hs a0 M T H' st → ∀ v, Rep a0 M H' v d → Q v H') : Give T a0 M H st d Q := fun v H' e hs r => h H' e hs v r
theorem tT_tB {ir : E} : ∀ σ H Q, tT T c cal E0 own ir σ H Q → tB (tE T c cal E0 own ir) σ H Q := fun σ H Q ⟨a0, M, st, ρ, hs, he, h⟩ => ⟨a0, M, st, ρ, hs, he, h.bnd.mono fun d H1 st1 x hs1 r v hv => by
  cases d with
  | bl b => cases hv; exact ⟨b, rfl, r.ret hs1⟩
  | _ => exact r.elim⟩
theorem tT_tTest {r : R2} {ta tb : TE} {ir : E} (h : ∀ σ H Q, tE T c cal E0 own ir σ H Q → tOp r ta tb σ H Q) : ∀ σ H Q, tT T c cal E0 own ir σ H Q → tTest (tOp r ta tb) σ H Q := fun σ H Q q => h σ H _ (tT_tB σ H Q q)
/-- an expression that is tested by its value -/
theorem plain_test {e : Expr} {ir : E} (h : PE X e (tE T c cal E0 own ir)) (he : ∀ whole, isTrue e X.env whole = (do let v ← whole; standAt e.pos; holding [v] (truthy v))) : PT X e (tT T c cal E0 own ir) := PT.imp (pt_val h he) tT_tB

/-! constants, names -/
theorem L_const (g : Gd G X k T c cal E0) {cc : Const} {d : D} {j : Nat} {pos : Pos} (h : cConst G cc = some d) : PE X (.Constant cc j pos) (tE T c cal E0 own (.cst d)) := by
  have fin : ∀ {v : V} {σ : L2.St} {H : Hp} {Q : VK}, (∀ a0 M H, Rep a0 M H v d) → tE T c cal E0 own (.cst d) σ H Q → Q v H := fun {v σ H Q} r ⟨a0, M, st, ρ, hs, he, h⟩ => (show Res T c E0 a0 M H (ret d st) _ from h).ret hs _ (r _ _ _)
  cases cc with
  | none => cases h; exact PE.imp pe_non fun σ H Q q => fin (fun _ _ _ => .non) q
  | bool b => cases h; exact PE.imp pe_bl fun σ H Q q => fin (fun _ _ _ => .bl _) q
  | int i => cases h; exact PE.imp pe_int fun σ H Q q => fin (fun _ _ _ => .int _) q
  | str x =>
    obtain ⟨t, e, rfl⟩ := Option.map_eq_some_iff.mp h
    obtain rfl := g.tags _ _ e
    exact PE.imp pe_str fun σ H Q q => fin (fun _ _ _ => .str _) q
  | _ => cases h
theorem okName_of {x : Str} (h : okName x = true) : (x == ("__debug__" : Str)) = false ∧ (x == ("__classdict__" : Str)) = false ∧ x ≠ "__name__" := by
  unfold okName at h
  simp only [Bool.and_eq_true, Bool.not_eq_true'] at h
  exact ⟨h.1.1, h.1.2, fun z => by have := h.2; rw [z] at this; simp at this⟩
theorem isGl_of {S : Sx} (f : Fit X S own E0) {x : Str} (h : isGl S x = true) : Gl X x ∧ (x == ("__debug__" : Str)) = false ∧ x ≠ "__name__" := by
  unfold isGl at h
  simp only [Bool.and_eq_true, decide_eq_true_eq] at h
  obtain ⟨h1, _, h3⟩ := okName_of h.1
  exact ⟨by rw [f.sc] at h; exact h.2, h1, h3⟩
theorem slotOf_of {S : Sx} (f : Fit X S own E0) {x : Str} {i : Nat} (h : slotOf S x = some i) : X.N[i]? = some x ∧ Vis X.env.scope x ∧ (x == ("__debug__" : Str)) = false ∧ (x == ("__classdict__" : Str)) = false := by
  unfold slotOf at h
  rw [f.N, f.sc] at h
  split at h
  · rename_i h1 h2; exact ⟨findIx_get h, .inl h2, (okName_of h1).1, (okName_of h1).2.1⟩
  · rename_i h1 h2; exact ⟨findIx_get h, .inr (.inl h2), (okName_of h1).1, (okName_of h1).2.1⟩
  · rename_i h1 h2; exact ⟨findIx_get h, .inr (.inr h2), (okName_of h1).1, (okName_of h1).2.1⟩
  · cases h
theorem L_var {S : Sx} (f : Fit X S own E0) {x : Str} {i : Nat} {pos : Pos} (h : slotOf S x = some i) (ho : S.own.contains x = false) : PE X (.Name x pos) (tE T c cal E0 own (.var i)) := by
  obtain ⟨h1, h2, h3, h4⟩ := slotOf_of f h
  refine PE.imp (pe_var h1 h2 h3 h4) fun σ H Q q => ?_
  obtain ⟨a0, M, st, ρ, hs, he, r⟩ := q
  obtain ⟨d, e, r⟩ := (show Res T c E0 a0 M H (ofO (ρ[i]?.bind id) st) _ from r).ofO hs
  have e' : ρ[i]? = some (some d) := by
    cases e2 : ρ[i]? with
    | none => rw [e2] at e; cases e
    | some o => rw [e2] at e; cases (show o = some d from e); rfl
  obtain ⟨v, hv, hr⟩ := he.slot i d e'
  rw [f.own i x h1, ho] at hr
  exact ⟨v, hv, r H Ext.refl hs v hr⟩
theorem L_glob (g : Gd G X k T c cal E0) {S : Sx} (f : Fit X S own E0) {x : Str} {i : Int} {pos : Pos} (h : isGl S x = true) (hc : G.gc x = some i) : PE X (.Name x pos) (tE T c cal E0 own (.cst (.int i))) := by
  obtain ⟨h1, h2, h3⟩ := isGl_of f h
  obtain ⟨t, ht⟩ := g.consts x i hc
  refine PE.imp (pe_glob h1 ht (v := .int i) ⟨t, rfl⟩ h2) fun σ H Q q => ?_
  obtain ⟨a0, M, st, ρ, hs, he, r⟩ := q
  exact (show Res T c E0 a0 M H (ret (D.int i) st) _ from r).ret hs _ (.int i)

/-! displays -/
def Es.len : Es → Nat
  | .nil => 0
  | .cons _ es => es.len + 1
theorem evEs_len : ∀ (es : Es) (ρ : Env) (st st' : Sr) (ds : List D), evEs cal es ρ st = .ok ds st' → ds.length = es.len
  | .nil, ρ, st, st', ds, h => by
    have h : R.ok ([] : List D) st = .ok ds st' := h
    cases h; rfl
  | .cons e es, ρ, st, st', ds, h => by
    have h : bnd (evE cal e ρ) (fun x => bnd (evEs cal es ρ) fun xs => ret (x :: xs)) st = .ok ds st' := h
    unfold Nk.bnd at h
    cases e1 : evE cal e ρ st with
    | ok d s =>
      rw [e1] at h
      dsimp only at h
      cases e2 : evEs cal es ρ s with
      | ok xs s2 =>
        rw [e2] at h
        have h : R.ok (d :: xs) s2 = .ok ds st' := h
        cases h
        rw [List.length_cons, evEs_len es ρ s _ xs e2]; rfl
      | err _ _ => rw [e2] at h; cases h
      | stuck => rw [e2] at h; cases h
    | err _ _ => rw [e1] at h; cases h
    | stuck => rw [e1] at h; cases h
theorem Res.len {a0 : Addr} {M : Addr → Prop} {H : Hp} {es : Es} {ρ : Env} {st : Sr} {K : List D → Hp → Sr → Prop} (h : Res T c E0 a0 M H (evEs cal es ρ st) K) : Res T c E0 a0 M H (evEs cal es ρ st) fun ds H' st' => ds.length = es.len ∧ K ds H' st' := by
  cases e : evEs cal es ρ st with
  | ok ds s =>
    rw [e] at h
    exact fun H' x hs => ⟨evEs_len es ρ st s ds e, h H' x hs⟩
  | err x s => rw [e] at h; exact h
  | stuck => rw [e] at h; exact h
theorem lim1000 {n : Nat} (h : n ≤ 1000) : n ≤ line ∧ n ≤ sizeLine := ⟨Nat.le_trans h (by decide), Nat.le_trans (Nat.le_trans h (by decide : 1000 ≤ line)) line_le⟩
theorem L_tup {es : List Expr} {irs : Es} {j : Nat} {pos : Pos} (h : PA X es (tEs T c cal E0 own irs)) (hl : irs.len ≤ 1000) : PE X (.Tuple es j pos) (tE T c cal E0 own (.tup irs)) := by
  refine PE.imp (pe_tup h) fun σ H Q q => ?_
  obtain ⟨a0, M, st, ρ, hs, he, r⟩ := q
  have r : Res T c E0 a0 M H (bnd (evEs cal irs ρ) (fun xs => ret (D.tup xs)) st) _ := r
  refine ⟨a0, M, st, ρ, hs, he, r.bnd.len.mono fun ds H1 st1 x hs1 ⟨e, r1⟩ vs hv => ?_⟩
  have := hv.length
  refine ⟨by have := (lim1000 hl).2; omega, fun p hp => (give_of r1).newTup hs1 hv (by have := (lim1000 hl).1; omega) hp⟩
theorem L_lst {es : List Expr} {irs : Es} {pos : Pos} (h : PA X es (tEs T c cal E0 own irs)) (hl : irs.len ≤ 1000) : PE X (.List es pos) (tE T c cal E0 own (.lst irs)) := by
  refine PE.imp (pe_lst h) fun σ H Q q => ?_
  obtain ⟨a0, M, st, ρ, hs, he, r⟩ := q
  have r : Res T c E0 a0 M H (bnd (evEs cal irs ρ) (fun xs => ret (D.lst xs)) st) _ := r
  refine ⟨a0, M, st, ρ, hs, he, r.bnd.len.mono fun ds H1 st1 x hs1 ⟨e, r1⟩ vs hv => ?_⟩
  have := hv.length
  refine ⟨by have := (lim1000 hl).2; omega, fun p hp => (give_of r1).newLst hs1 hv (by have := (lim1000 hl).1; omega) hp⟩
theorem L_nil : PA X [] (tEs T c cal E0 own .nil) := PA.imp pa_nil fun σ H Q ⟨a0, M, st, ρ, hs, he, r⟩ => (show Res T c E0 a0 M H (ret [] st) _ from r).ret hs [] .nil
theorem L_cons {e : Expr} {es : List Expr} {ir : E} {irs : Es} (h : PE X e (tE T c cal E0 own ir)) (h2 : PA X es (tEs T c cal E0 own irs)) (hs' : starEach (e :: es) X.env = (false, eval e X.env) :: starEach es X.env) : PA X (e :: es) (tEs T c cal E0 own (.cons ir irs)) := by
  refine PA.imp (pa_cons h h2 hs') fun σ H Q q => ?_
  obtain ⟨a0, M, st, ρ, hs, he, r⟩ := q
  have r : Res T c E0 a0 M H (bnd (evE cal ir ρ) (fun x => bnd (evEs cal irs ρ) fun xs => ret (x :: xs)) st) _ := r
  refine ⟨a0, M, st, ρ, hs, he, r.bnd.mono fun d H1 st1 x hs1 r1 v hv => ?_⟩
  refine ⟨a0, M, st1, ρ, hs1, he.ext hs x, r1.bnd.mono fun ds H2 st2 x2 hs2 r2 vs hvs => ?_⟩
  exact r2.ret hs2 _ (.cons (x2.rep hs1 hv) hvs)

/-! operations -/
/-- two expressions, then an operation -/
theorem tOp_of {a b : E} {o : O2} : ∀ σ H Q, tE T c cal E0 own (.o2 o a b) σ H Q → tOp (rO2 T o) (tE T c cal E0 own a) (tE T c cal E0 own b) σ H Q := fun σ H Q ⟨a0, M, st, ρ, hs, he, r⟩ => by
  have r : Res T c E0 a0 M H (bnd (evE cal a ρ) (fun x => bnd (evE cal b ρ) fun y => ofO (op2 o x y)) st) _ := r
  refine ⟨a0, M, st, ρ, hs, he, r.bnd.mono fun d1 H1 st1 x hs1 r1 v hv => ?_⟩
  refine ⟨a0, M, st1, ρ, hs1, he.ext hs x, r1.bnd.mono fun d2 H2 st2 x2 hs2 r2 u hu => ?_⟩
  obtain ⟨d, e, r2⟩ := r2.ofO hs2
  exact ⟨a0, M, st2, d1, d2, d, hs2, x2.rep hs1 hv, hu, e, give_of r2⟩
theorem tUn_of {a : E} {o : O1} : ∀ σ H Q, tE T c cal E0 own (.o1 o a) σ H Q → tUn (rO1 T o) (tE T c cal E0 own a) σ H Q := fun σ H Q ⟨a0, M, st, ρ, hs, he, r⟩ => by
  have r : Res T c E0 a0 M H (bnd (evE cal a ρ) (fun x => ofO (op1 o x)) st) _ := r
  refine ⟨a0, M, st, ρ, hs, he, r.bnd.mono fun d1 H1 st1 x hs1 r1 v hv => ?_⟩
  obtain ⟨d, e, r1⟩ := r1.ofO hs1
  exact ⟨a0, M, st1, d1, d, hs1, hv, e, give_of r1⟩
theorem L_bin {a b : Expr} {ia ib : E} {op : Operator} {o : O2} {pos : Pos} (ho : binO op = some o) (ha : PE X a (tE T c cal E0 own ia)) (hb : PE X b (tE T c cal E0 own ib)) : PE X (.BinOp a op b pos) (tE T c cal E0 own (.o2 o ia ib)) := PE.imp (pe_op (binO_sound ho) ha hb) tOp_of
theorem L_cmp (g : Gd G X k T c cal E0) {a b : Expr} {ia ib : E} {op : CmpOp} {o : O2} {pos : Pos} (ho : cmpO op = some o) (ha : PE X a (tE T c cal E0 own ia)) (hb : PE X b (tE T c cal E0 own ib)) (hm : behindInMarks op b = false) :
    PE X (.Compare a [op] [b] pos) (tE T c cal E0 own (.o2 o ia ib)) ∧ PT X (.Compare a [op] [b] pos) (tT T c cal E0 own (.o2 o ia ib)) :=
  ⟨PE.imp (pe_cmpR (cmpO_sound g.room ho) ha hb hm) tOp_of, PT.imp (pt_cmpR (cmpO_sound g.room ho) ha hb hm) (tT_tTest tOp_of)⟩
theorem L_ix {a b : Expr} {ia ib : E} {pos : Pos} (ha : PE X a (tE T c cal E0 own ia)) (hb : PE X b (tE T c cal E0 own ib)) (hs : L2.PlainIx b) : PE X (.Subscript a b pos) (tE T c cal E0 own (.o2 .ix ia ib)) := PE.imp (pe_ix s_ix ha hb hs) tOp_of
theorem tIs_of {a : E} {o : O1} {H0 : Hp} : ∀ σ H Q, tE T c cal E0 own (.o1 o a) σ H Q → tOp (fun x y H Q => y = .non ∧ rO1 T o x H Q) (tE T c cal E0 own a) (tC .non) σ H Q := fun σ H Q q => by
  obtain ⟨a0, M, st, ρ, hs, he, r⟩ := tUn_of σ H Q q
  exact ⟨a0, M, st, ρ, hs, he, r.mono fun d H1 st1 x hs1 q v hv => ⟨rfl, q v hv⟩⟩
theorem L_isnone {a : Expr} {ia : E} {j : Nat} {p pos : Pos} (ha : PE X a (tE T c cal E0 own ia)) : PE X (.Compare a [.Is] [.Constant .none j p] pos) (tE T c cal E0 own (.o1 .isnone ia)) ∧ PT X (.Compare a [.Is] [.Constant .none j p] pos) (tT T c cal E0 own (.o1 .isnone ia)) :=
  ⟨PE.imp (pe_cmpR s_isnone ha pe_non (nomark _)) (tIs_of (H0 := fun _ => none)), PT.imp (pt_cmpR s_isnone ha pe_non (nomark _)) (tT_tTest (tIs_of (H0 := fun _ => none)))⟩
theorem L_notnone {a : Expr} {ia : E} {j : Nat} {p pos : Pos} (ha : PE X a (tE T c cal E0 own ia)) : PE X (.Compare a [.IsNot] [.Constant .none j p] pos) (tE T c cal E0 own (.o1 .notnone ia)) ∧ PT X (.Compare a [.IsNot] [.Constant .none j p] pos) (tT T c cal E0 own (.o1 .notnone ia)) :=
  ⟨PE.imp (pe_cmpR s_notnone ha pe_non (nomark _)) (tIs_of (H0 := fun _ => none)), PT.imp (pt_cmpR s_notnone ha pe_non (nomark _)) (tT_tTest (tIs_of (H0 := fun _ => none)))⟩
theorem L_neg {a : Expr} {ia : E} {pos : Pos} (ha : PE X a (tE T c cal E0 own ia)) : PE X (.UnaryOp .USub a pos) (tE T c cal E0 own (.o1 .neg ia)) := PE.imp (pe_un s_neg ha) tUn_of
theorem L_rev {a : Expr} {ia : E} {j : Nat} {p1 p2 p3 pos : Pos} (ha : PE X a (tE T c cal E0 own ia)) : PE X (.Subscript a (.Slice none none (some (.UnaryOp .USub (.Constant (.int 1) j p1) p2)) p3) pos) (tE T c cal E0 own (.o1 .rev ia)) := PE.imp (pe_revT ha) tUn_of
theorem L_onone : PO X none (tEo T c cal E0 own .none) := PO.imp po_none fun σ H Q ⟨a0, M, st, ρ, hs, he, r⟩ => (show Res T c E0 a0 M H (ret none st) _ from r).ret hs
theorem L_osome {a : Expr} {ia : E} (ha : PE X a (tE T c cal E0 own ia)) : PO X (some a) (tEo T c cal E0 own (.some ia)) := PO.imp (po_some ha) fun σ H Q ⟨a0, M, st, ρ, hs, he, r⟩ => ⟨a0, M, st, ρ, hs, he, (show Res T c E0 a0 M H (bnd (evE cal ia ρ) _ st) _ from r).bnd.mono fun d H1 st1 x hs1 r1 v hv => by
  cases d with
  | int i => cases hv; exact ⟨i, rfl, (show Res T c E0 a0 M H1 (ret (some i) st1) _ from r1).ret hs1⟩
  | _ => exact r1.elim⟩
theorem L_slice {a : Expr} {lo hi : Option Expr} {ia : E} {il ih : Eo} {p2 pos : Pos} (ha : PE X a (tE T c cal E0 own ia)) (hl : PO X lo (tEo T c cal E0 own il)) (hh : PO X hi (tEo T c cal E0 own ih)) : PE X (.Subscript a (.Slice lo hi none p2) pos) (tE T c cal E0 own (.slice ia il ih)) := by
  refine PE.imp (pe_slice (s_slice (T := T)) ha hl hh) fun σ H Q q => ?_
  obtain ⟨a0, M, st, ρ, hs, he, r⟩ := q
  have r : Res T c E0 a0 M H (bnd (evE cal ia ρ) (fun x => bnd (evEo cal il ρ) fun l => bnd (evEo cal ih ρ) fun h => ofO (sliceO x l h)) st) _ := r
  refine ⟨a0, M, st, ρ, hs, he, r.bnd.mono fun d1 H1 st1 x hs1 r1 v hv => ?_⟩
  refine ⟨a0, M, st1, ρ, hs1, he.ext hs x, r1.bnd.mono fun l H2 st2 x2 hs2 r2 => ?_⟩
  refine ⟨a0, M, st2, ρ, hs2, (he.ext hs x).ext hs1 x2, r2.bnd.mono fun h H3 st3 x3 hs3 r3 => ?_⟩
  obtain ⟨d, e, r3⟩ := r3.ofO hs3
  exact ⟨a0, M, st3, d1, d, hs3, x3.rep hs2 (x2.rep hs1 hv), e, give_of r3⟩
end
end Nk
end
section
set_option Elab.async false
set_option linter.all false
set_option maxRecDepth 100000
set_option maxHeartbeats 4000000
/-! truths, calls -/
namespace Nk
open PySem PySem.Spec PyProof.Rows L2
section
variable {G : Gx} {X : Cx} {k : Nat} {T : TL} {c : Cl} {cal : Nat → List D → M D} {E0 : XK} {own : Nat → Bool}
theorem shape_star {e : Expr} (h : noStar e = true) (es : List Expr) (env : PySem.Env) : starEach (e :: es) env = (false, eval e env) :: starEach es env := by
  cases e <;> first | rfl | cases h
def shapeOk : Expr → Bool
  | .Starred .. => false
  | .Set .. => false
  | .Slice .. => false
  | _ => true
theorem cE_shape {n : Nat} {S : Sx} {e : Expr} {ir : E} (h : cE G n S e = some ir) : shapeOk e = true := by
  cases n with
  | zero => simp [cE] at h
  | succ n => cases e <;> first | rfl | (simp [cE] at h)
theorem shape_noStar {e : Expr} (h : shapeOk e = true) : noStar e = true := by cases e <;> first | rfl | cases h
theorem shape_marks {e : Expr} (h : shapeOk e = true) (op : CmpOp) : behindInMarks op e = false := by cases e <;> first | rfl | cases h
theorem shape_ix {e : Expr} (h : shapeOk e = true) : L2.PlainIx e := by cases e <;> first | (intro _ _; rfl) | cases h
theorem shape_set {e : Expr} (h : shapeOk e = true) (env : PySem.Env) : ∀ x, foldedSetIterable e env x = pure x := by cases e <;> first | (intro _; rfl) | cases h
theorem noStars : ∀ {es : List Expr} (env : PySem.Env) (pos : Pos), (∀ e ∈ es, noStar e = true) → (backTo pos (starEach es env)).any (·.1) = false
  | [], _, _, _ => rfl
  | e :: es, env, pos, h => by
    rw [shape_star (h e List.mem_cons_self)]
    show (false || (backTo pos (starEach es env)).any (·.1)) = false
    rw [noStars env pos fun e he => h e (List.mem_cons_of_mem _ he)]; rfl

/-! not, and, or, if -/
theorem tNotV_of {a : E} : ∀ σ H Q, (tE T c cal E0 own) (.not a) σ H Q → tNotV ((tE T c cal E0 own) a) σ H Q := fun σ H Q ⟨a0, M, st, ρ, hs, he, r⟩ => by
  have r : Res T c E0 a0 M H (bnd (evE cal a ρ) (fun x => bnd (truth x) fun c => ret (D.bl (!c))) st) _ := r
  refine ⟨a0, M, st, ρ, hs, he, r.bnd.mono fun d H1 st1 x hs1 r1 v hv => ?_⟩
  cases d with
  | bl b => cases hv; exact ⟨b, rfl, (show Res T c E0 a0 M H1 (ret (D.bl (!b)) st1) _ from r1).ret hs1 _ (.bl _)⟩
  | _ => exact r1.elim
theorem tNot_of {a : E} : ∀ σ H Q, (tT T c cal E0 own) (.not a) σ H Q → tNot ((tT T c cal E0 own) a) σ H Q := fun σ H Q ⟨a0, M, st, ρ, hs, he, r⟩ => by
  have r : Res T c E0 a0 M H (bnd (bnd (evE cal a ρ) (fun x => bnd (truth x) fun c => ret (D.bl (!c)))) truth st) _ := r
  refine ⟨a0, M, st, ρ, hs, he, ?_⟩
  have e : bnd (bnd (evE cal a ρ) (fun x => bnd (truth x) fun c => ret (D.bl (!c)))) truth st = bnd (bnd (evE cal a ρ) truth) (fun c => ret (!c)) st := by
    unfold Nk.bnd
    cases evE cal a ρ st with
    | ok d s => dsimp only; cases truth d s <;> rfl
    | _ => rfl
  rw [e] at r
  exact r.bnd.mono fun b H1 st1 x hs1 r1 => r1.ret hs1
theorem L_not {a : Expr} {ia : E} {pos : Pos} (ha : PE X a ((tE T c cal E0 own) ia)) (ht : PT X a ((tT T c cal E0 own) ia)) : PE X (.UnaryOp .Not a pos) ((tE T c cal E0 own) (.not ia)) ∧ PT X (.UnaryOp .Not a pos) ((tT T c cal E0 own) (.not ia)) := ⟨PE.imp (pe_not ha) tNotV_of, PT.imp (pt_not ht) tNot_of⟩
theorem tAndV_of {a b : E} : ∀ σ H Q, (tE T c cal E0 own) (.and a b) σ H Q → tAndV ((tE T c cal E0 own) a) ((tE T c cal E0 own) b) σ H Q := fun σ H Q ⟨a0, M, st, ρ, hs, he, r⟩ => by
  have r : Res T c E0 a0 M H (bnd (evE cal a ρ) (fun x => bnd (truth x) fun c => match c with | true => evE cal b ρ | false => ret (D.bl false)) st) _ := r
  refine ⟨a0, M, st, ρ, hs, he, r.bnd.mono fun d H1 st1 x hs1 r1 v hv => ?_⟩
  cases d with
  | bl k =>
    cases hv
    refine ⟨k, rfl, ?_⟩
    cases k with
    | true => exact iteT ⟨a0, M, st1, ρ, hs1, he.ext hs x, r1⟩
    | false => exact iteF ((show Res T c E0 a0 M H1 (ret (D.bl false) st1) _ from r1).ret hs1 _ (.bl _))
  | _ => exact r1.elim
theorem tOrV_of {a b : E} : ∀ σ H Q, (tE T c cal E0 own) (.or a b) σ H Q → tOrV ((tE T c cal E0 own) a) ((tE T c cal E0 own) b) σ H Q := fun σ H Q ⟨a0, M, st, ρ, hs, he, r⟩ => by
  have r : Res T c E0 a0 M H (bnd (evE cal a ρ) (fun x => bnd (truth x) fun c => match c with | true => ret (D.bl true) | false => evE cal b ρ) st) _ := r
  refine ⟨a0, M, st, ρ, hs, he, r.bnd.mono fun d H1 st1 x hs1 r1 v hv => ?_⟩
  cases d with
  | bl k =>
    cases hv
    refine ⟨k, rfl, ?_⟩
    cases k with
    | true => exact iteT ((show Res T c E0 a0 M H1 (ret (D.bl true) st1) _ from r1).ret hs1 _ (.bl _))
    | false => exact iteF ⟨a0, M, st1, ρ, hs1, he.ext hs x, r1⟩
  | _ => exact r1.elim
theorem and_assoc (a b : E) (ρ : Env) (st : Sr) : bnd (evE cal (.and a b) ρ) truth st = bnd (bnd (evE cal a ρ) truth) (fun k => match k with | true => bnd (evE cal b ρ) truth | false => ret false) st := by
  show bnd (bnd (evE cal a ρ) (fun x => bnd (truth x) fun c => match c with | true => evE cal b ρ | false => ret (D.bl false))) truth st = _
  unfold Nk.bnd
  cases evE cal a ρ st with
  | ok d s =>
    dsimp only
    cases truth d s with
    | ok k s2 => cases k <;> rfl
    | _ => rfl
  | _ => rfl
theorem or_assoc (a b : E) (ρ : Env) (st : Sr) : bnd (evE cal (.or a b) ρ) truth st = bnd (bnd (evE cal a ρ) truth) (fun k => match k with | true => ret true | false => bnd (evE cal b ρ) truth) st := by
  show bnd (bnd (evE cal a ρ) (fun x => bnd (truth x) fun c => match c with | true => ret (D.bl true) | false => evE cal b ρ)) truth st = _
  unfold Nk.bnd
  cases evE cal a ρ st with
  | ok d s =>
    dsimp only
    cases truth d s with
    | ok k s2 => cases k <;> rfl
    | _ => rfl
  | _ => rfl
theorem tAnd_of {a b : E} : ∀ σ H Q, (tT T c cal E0 own) (.and a b) σ H Q → tAnd ((tT T c cal E0 own) a) ((tT T c cal E0 own) b) σ H Q := fun σ H Q ⟨a0, M, st, ρ, hs, he, r⟩ => by
  rw [and_assoc] at r
  refine ⟨a0, M, st, ρ, hs, he, r.bnd.mono fun k H1 st1 x hs1 r1 => ?_⟩
  cases k with
  | true => exact iteT ⟨a0, M, st1, ρ, hs1, he.ext hs x, r1⟩
  | false => exact iteF ((show Res T c E0 a0 M H1 (ret false st1) _ from r1).ret hs1)
theorem tOr_of {a b : E} : ∀ σ H Q, (tT T c cal E0 own) (.or a b) σ H Q → tOr ((tT T c cal E0 own) a) ((tT T c cal E0 own) b) σ H Q := fun σ H Q ⟨a0, M, st, ρ, hs, he, r⟩ => by
  rw [or_assoc] at r
  refine ⟨a0, M, st, ρ, hs, he, r.bnd.mono fun k H1 st1 x hs1 r1 => ?_⟩
  cases k with
  | true => exact iteT ((show Res T c E0 a0 M H1 (ret true st1) _ from r1).ret hs1)
  | false => exact iteF ⟨a0, M, st1, ρ, hs1, he.ext hs x, r1⟩
/-- what holds of a written and | or of several -/
def BB (X : Cx) (op : BoolOp) (es : List Expr) (te : TE) (tt : TT) : Prop := ∀ pos, PE X (.BoolOp op es pos) te ∧ PW X (.BoolOp op es pos) tt
theorem L_b1 {a : Expr} {ia : E} {op : BoolOp} (ha : PE X a ((tE T c cal E0 own) ia)) (ht : PT X a ((tT T c cal E0 own) ia)) : BB X op [a] ((tE T c cal E0 own) ia) ((tT T c cal E0 own) ia) := fun pos => ⟨pe_one ha, by cases op; exact pw_and1 ht; exact pw_or1 ht⟩
theorem L_and {a b : Expr} {es : List Expr} {ia ib : E} (ha : PE X a ((tE T c cal E0 own) ia)) (ht : PT X a ((tT T c cal E0 own) ia)) (hb : BB X .And (b :: es) ((tE T c cal E0 own) ib) ((tT T c cal E0 own) ib)) : BB X .And (a :: b :: es) ((tE T c cal E0 own) (.and ia ib)) ((tT T c cal E0 own) (.and ia ib)) := fun pos =>
  ⟨PE.imp (pe_and ha (hb pos).1) tAndV_of, PW.imp (pw_and ht (hb pos).2) tAnd_of⟩
theorem L_or {a b : Expr} {es : List Expr} {ia ib : E} (ha : PE X a ((tE T c cal E0 own) ia)) (ht : PT X a ((tT T c cal E0 own) ia)) (hb : BB X .Or (b :: es) ((tE T c cal E0 own) ib) ((tT T c cal E0 own) ib)) : BB X .Or (a :: b :: es) ((tE T c cal E0 own) (.or ia ib)) ((tT T c cal E0 own) (.or ia ib)) := fun pos =>
  ⟨PE.imp (pe_or ha (hb pos).1) tOrV_of, PW.imp (pw_or ht (hb pos).2) tOr_of⟩
theorem ite_assoc (t a b : E) (ρ : Env) : evE cal (.ite t a b) ρ = bnd (bnd (evE cal t ρ) truth) fun k => match k with | true => evE cal a ρ | false => evE cal b ρ := by
  funext st
  show bnd (evE cal t ρ) (fun x => bnd (truth x) fun c => match c with | true => evE cal a ρ | false => evE cal b ρ) st = _
  unfold Nk.bnd
  cases evE cal t ρ st with
  | ok d s => rfl
  | _ => rfl
theorem L_ite {t a b : Expr} {it ia ib : E} {pos : Pos} (ht : PT X t ((tT T c cal E0 own) it)) (ha : PE X a ((tE T c cal E0 own) ia)) (hb : PE X b ((tE T c cal E0 own) ib)) (ha' : PT X a ((tT T c cal E0 own) ia)) (hb' : PT X b ((tT T c cal E0 own) ib)) :
    PE X (.IfExp t a b pos) ((tE T c cal E0 own) (.ite it ia ib)) ∧ PT X (.IfExp t a b pos) ((tT T c cal E0 own) (.ite it ia ib)) := by
  refine ⟨PE.imp (pe_ifExp ht ha hb) fun σ H Q ⟨a0, M, st, ρ, hs, he, r⟩ => ?_, ?_⟩
  · rw [ite_assoc] at r
    refine ⟨a0, M, st, ρ, hs, he, r.bnd.mono fun k H1 st1 x hs1 r1 => ?_⟩
    cases k with
    | true => exact iteT ⟨a0, M, st1, ρ, hs1, he.ext hs x, r1⟩
    | false => exact iteF ⟨a0, M, st1, ρ, hs1, he.ext hs x, r1⟩
  · have base : PT X (.IfExp t a b pos) (fun σ H Q => (tT T c cal E0 own) it σ H fun k H1 => if k = true then (tT T c cal E0 own) ia σ H1 Q else (tT T c cal E0 own) ib σ H1 Q) := by
      refine ⟨fun pins s σ H Q I h => ?_⟩
      refine PyProof.Rows.isTrue_IfExp (thn (ht.run pins s σ H _ I h) fun d s1 ⟨H1, I1, q1⟩ => ?_)
      cases d with
      | true => exact ha'.run pins s1 σ H1 Q I1 q1
      | false => exact hb'.run pins s1 σ H1 Q I1 q1
    refine PT.imp base fun σ H Q ⟨a0, M, st, ρ, hs, he, r⟩ => ?_
    rw [ite_assoc] at r
    have e : bnd (bnd (bnd (evE cal it ρ) truth) fun k => match k with | true => evE cal ia ρ | false => evE cal ib ρ) truth st = bnd (bnd (evE cal it ρ) truth) (fun k => match k with | true => bnd (evE cal ia ρ) truth | false => bnd (evE cal ib ρ) truth) st := by
      unfold Nk.bnd
      cases evE cal it ρ st with
      | ok d s =>
        dsimp only
        cases truth d s with
        | ok k s2 => cases k <;> rfl
        | _ => rfl
      | _ => rfl
    rw [e] at r
    refine ⟨a0, M, st, ρ, hs, he, r.bnd.mono fun k H1 st1 x hs1 r1 => ?_⟩
    cases k with
    | true => exact iteT ⟨a0, M, st1, ρ, hs1, he.ext hs x, r1⟩
    | false => exact iteF ⟨a0, M, st1, ρ, hs1, he.ext hs x, r1⟩

/-! a < b < c -/
theorem tChain_of {a b d : E} {o p : O2} (ho : ∀ d1 d2 d, op2 o d1 d2 = some d → ∃ b, d = .bl b) : ∀ σ H Q, (tE T c cal E0 own) (.chain o p a b d) σ H Q → tChain (rO2 T o) (rO2 T p) ((tE T c cal E0 own) a) ((tE T c cal E0 own) b) ((tE T c cal E0 own) d) σ H Q := fun σ H Q ⟨a0, M, st, ρ, hs, he, r⟩ => by
  have r : Res T c E0 a0 M H (bnd (evE cal a ρ) (fun x => bnd (evE cal b ρ) fun y => bnd (ofO (op2 o x y)) fun u => bnd (truth u) fun k => match k with
    | true => bnd (evE cal d ρ) fun z => ofO (op2 p y z)
    | false => ret (D.bl false)) st) _ := r
  refine ⟨a0, M, st, ρ, hs, he, r.bnd.mono fun d1 H1 st1 x hs1 r1 v hv => ?_⟩
  refine ⟨a0, M, st1, ρ, hs1, he.ext hs x, r1.bnd.mono fun d2 H2 st2 x2 hs2 r2 u hu => ?_⟩
  obtain ⟨w, e, r2⟩ := r2.bnd.ofO hs2
  obtain ⟨b', rfl⟩ := ho _ _ _ e
  refine ⟨a0, M, st2, d1, d2, _, hs2, x2.rep hs1 hv, hu, e, fun z H3 x3 hs3 hz => ?_⟩
  cases hz
  refine ⟨b', rfl, ?_⟩
  have r3 := r2 H3 x3 hs3
  cases b' with
  | true =>
    have r3 : Res T c E0 a0 M H3 (bnd (evE cal d ρ) (fun z => ofO (op2 p d2 z)) st2) _ := r3
    refine iteT ⟨a0, M, st2, ρ, hs3, ((he.ext hs x).ext hs1 x2).ext hs2 x3, r3.bnd.mono fun d3 H4 st4 x4 hs4 r4 w' hw' => ?_⟩
    obtain ⟨r', e', r4⟩ := r4.ofO hs4
    exact ⟨a0, M, st4, d2, d3, r', hs4, (x3.trans x4).rep hs2 hu, hw', e', give_of r4⟩
  | false => exact iteF ((show Res T c E0 a0 M H3 (ret (D.bl false) st2) _ from r3).ret hs3 _ (.bl _))
theorem L_chain (g : Gd G X k T c cal E0) {a b d : Expr} {ia ib id' : E} {o1 o2 : CmpOp} {o p : O2} {pos : Pos} (h1 : ordO o1 = some o) (h2 : ordO o2 = some p) (ha : PE X a ((tE T c cal E0 own) ia)) (hb : PE X b ((tE T c cal E0 own) ib)) (hd : PE X d ((tE T c cal E0 own) id')) (hm : behindInMarks o2 d = false) :
    PE X (.Compare a [o1, o2] [b, d] pos) ((tE T c cal E0 own) (.chain o p ia ib id')) ∧ PT X (.Compare a [o1, o2] [b, d] pos) ((tT T c cal E0 own) (.chain o p ia ib id')) := by
  have q1 := ordO_cmpO h1
  have q2 := ordO_cmpO h2
  refine ⟨PE.imp (pe_chain (cmpO_sound (T := T) g.room q1.1) (cmpO_sound (T := T) g.room q2.1) ha hb hd hm) (tChain_of q1.2), PT.imp (pt_chain (cmpO_sound (T := T) g.room q1.1) (cmpO_sound (T := T) g.room q2.1) ha hb hd hm) fun σ H Q q => ?_⟩
  exact tChain_of q1.2 σ H _ (tT_tB σ H Q q)

/-! calls -/
theorem free_of (g : Gd G X k T c cal E0) {x : Str} (h : x ∈ builtinNames) : X.mg x = none := g.free x h
/-- a built-in of one argument -/
theorem tCB_of {o : O1} {ia : E} {r : List V → Hp → VK → Prop} (hr : ∀ x H Q, rO1 T o x H Q → r [x] H Q) : ∀ σ H Q, (tE T c cal E0 own) (.o1 o ia) σ H Q → tCB r (tCons ((tE T c cal E0 own) ia) tNil) σ H Q := fun σ H Q q => by
  obtain ⟨a0, M, st, ρ, hs, he, q⟩ := tUn_of σ H Q q
  exact ⟨a0, M, st, ρ, hs, he, q.mono fun d H1 st1 x hs1 q v hv => hr _ _ _ (q v hv)⟩
theorem L_b (g : Gd G X k T c cal E0) {S : Sx} (f : Fit X S own E0) {fx : Str} {o : O1} {a : Expr} {ia : E} {p pos : Pos} (hg : isGl S fx = true) (hb : bi1 fx = some o) (ha : PE X a ((tE T c cal E0 own) ia)) (hsh : shapeOk a = true) :
    PE X (.Call (.Name fx p) [a] [] pos) ((tE T c cal E0 own) (.o1 o ia)) := by
  obtain ⟨h1, h2, h3⟩ := isGl_of f hg
  have h4 := shape_star (shape_noStar hsh) [] X.env
  unfold bi1 at hb
  split at hb
  · rename_i e; subst e; cases hb
    exact PE.imp (pe_callB s_len h1 (free_of g (by decide +kernel)) PySem.boot_len (pa_cons ha pa_nil h4) h3 h2 h4) (tCB_of fun x H Q q => ⟨x, rfl, q⟩)
  split at hb
  · rename_i e; subst e; cases hb
    exact PE.imp (pe_callB (s_sum g.calm) h1 (free_of g (by decide +kernel)) (by decide +kernel) (pa_cons ha pa_nil h4) h3 h2 h4) (tCB_of fun x H Q q => ⟨x, rfl, q⟩)
  split at hb
  · rename_i e; subst e; cases hb
    exact PE.imp (pe_callB (s_all g.calm) h1 (free_of g (by decide +kernel)) (by decide +kernel) (pa_cons ha pa_nil h4) h3 h2 h4) (tCB_of fun x H Q q => ⟨x, rfl, q⟩)
  split at hb
  · rename_i e; subst e; cases hb
    exact PE.imp (pe_callB (s_max g.calm) h1 (free_of g (by decide +kernel)) (by decide +kernel) (pa_cons ha pa_nil h4) h3 h2 h4) (tCB_of fun x H Q q => ⟨x, rfl, q⟩)
  split at hb
  · rename_i e; subst e; cases hb
    exact PE.imp (pe_callTy s_tuple h1 (free_of g (by decide +kernel)) (by decide +kernel) (pa_cons ha pa_nil h4) h3 h2 h4) (tCB_of fun x H Q q => ⟨x, rfl, q⟩)
  split at hb
  · rename_i e; subst e; cases hb
    exact PE.imp (pe_callTy s_list h1 (free_of g (by decide +kernel)) (by decide +kernel) (pa_cons ha pa_nil h4) h3 h2 h4) (tCB_of fun x H Q q => ⟨x, rfl, q⟩)
  split at hb
  · rename_i e; subst e; cases hb
    exact PE.imp (pe_callTy s_int h1 (free_of g (by decide +kernel)) (by decide +kernel) (pa_cons ha pa_nil h4) h3 h2 h4) (tCB_of fun x H Q q => ⟨x, rfl, q⟩)
  · cases hb
theorem L_isi (g : Gd G X k T c cal E0) {S : Sx} (f : Fit X S own E0) {fx ty : Str} {o : O1} {a : Expr} {ia : E} {p p2 pos : Pos} (hg : isGl S fx = true) (hf : fx = ("isinstance" : Str)) (ht : isGl S ty = true) (hb : isiO ty = some o) (ha : PE X a ((tE T c cal E0 own) ia)) (hsh : shapeOk a = true) :
    PE X (.Call (.Name fx p) [a, .Name ty p2] [] pos) ((tE T c cal E0 own) (.o1 o ia)) := by
  obtain ⟨h1, h2, h3⟩ := isGl_of f hg
  obtain ⟨t1, t2, t3⟩ := isGl_of f ht
  have h4 := shape_star (shape_noStar hsh) [.Name ty p2] X.env
  subst hf
  have go : ∀ (hm : X.mg ty = none) (hv : bootBuiltins ty = some (.type (isiT o))) (ho : o = .isint ∨ o = .isbool ∨ o = .istup ∨ o = .isstr), PE X (.Call (.Name ("isinstance" : Str) p) [a, .Name ty p2] [] pos) ((tE T c cal E0 own) (.o1 o ia)) := fun hm hv ho => by
    have hty : PE X (.Name ty p2) (tC (.ty (isiT o))) := pe_bltn t1 hm hv rfl t3 t2
    refine PE.imp (pe_callB (s_isi (T := T) ho) h1 (free_of g (by decide +kernel)) PyProof.Rows.boot_isinstance (pa_cons ha (pa_cons hty pa_nil rfl) h4) h3 h2 h4) fun σ H Q q => ?_
    obtain ⟨a0, M, st, ρ, hs, he, q⟩ := tUn_of σ H Q q
    exact ⟨a0, M, st, ρ, hs, he, q.mono fun d H1 st1 x hs1 q v hv => ⟨v, rfl, q v hv⟩⟩
  unfold isiO at hb
  split at hb
  · rename_i e; subst e; cases hb
    exact go (free_of g (by decide +kernel)) (by decide +kernel) (.inl rfl)
  split at hb
  · rename_i e; subst e; cases hb
    exact go (free_of g (by decide +kernel)) (by decide +kernel) (.inr (.inl rfl))
  split at hb
  · rename_i e; subst e; cases hb
    exact go (free_of g (by decide +kernel)) (by decide +kernel) (.inr (.inr (.inl rfl)))
  split at hb
  · rename_i e; subst e; cases hb
    exact go (free_of g (by decide +kernel)) (by decide +kernel) (.inr (.inr (.inr rfl)))
  · cases hb
/-- tuple(x) of an own list -/
theorem L_tupOwn (g : Gd G X k T c cal E0) {S : Sx} (f : Fit X S own E0) {x : Str} {i : Nat} {p p2 pos : Pos} (hg : isGl S ("tuple" : Str) = true) (hx : slotOf S x = some i) (ho : S.own.contains x = true) :
    PE X (.Call (.Name ("tuple" : Str) p) [.Name x p2] [] pos) ((tE T c cal E0 own) (.tupOwn i)) := by
  obtain ⟨h1, h2, h3⟩ := isGl_of f hg
  obtain ⟨n1, n2, n3, n4⟩ := slotOf_of f hx
  refine PE.imp (pe_callTy call_tuple_of h1 (free_of g (by decide +kernel)) (by decide +kernel) (pa_cons (pe_var n1 n2 n3 n4) pa_nil rfl) h3 h2 rfl rfl) fun σ H Q q => ?_
  obtain ⟨a0, M, st, ρ, hs, he, r⟩ := q
  have go : ∀ o : Option (Option D), ρ[i]? = o → Res T c E0 a0 M H ((match o with | some (some (.lst a)) => ret (.tup a) | _ => stk : Nk.M D) st) (fun d H' _ => ∀ v, Rep a0 M H' v d → Q v H') → ∃ ds, ρ[i]? = some (some (.lst ds)) ∧ Res T c E0 a0 M H (ret (D.tup ds) st) (fun d H' _ => ∀ v, Rep a0 M H' v d → Q v H') := fun o e r => by
    cases o with
    | none => exact r.elim
    | some o =>
      cases o with
      | none => exact r.elim
      | some d =>
        cases d with
        | lst ds => exact ⟨ds, e, r⟩
        | _ => exact r.elim
  obtain ⟨ds, e, r⟩ := go _ rfl r
  obtain ⟨v, hv, hr⟩ := he.slot i _ e
  rw [f.own i x n1, ho] at hr
  obtain ⟨a, xs, ds', rfl, ed, m, n, e3, l, q⟩ := hr
  cases ed
  exact ⟨_, hv, a, xs, rfl, .inl ⟨SqL.of e3, fun p hp => (give_of r).newTup hs q l hp⟩⟩
end
end Nk
end
section
set_option Elab.async false
set_option linter.all false
set_option maxRecDepth 100000
set_option maxHeartbeats 4000000
/-! walks -/
namespace Nk
open PySem PySem.Spec PyProof.Rows L2
/-! ### enumerate(tuple) -/
theorem meets_enum_newT (l : Addr) (items : Array Value) (n : Nat) (dct : Option Addr) (sl : Array (Option Value)) :
    Meets (Builtin.«enumerate.__new__» ⟨[.type "enumerate", .ref l], []⟩) (fun _ R s => s.heap.get? l = some { cls := .type "tuple", dict := dct, data := .seq items n, slots := sl } ∧
      R (.ok (.ret (.ref (s.heap.push { cls := .type "tuple_iterator", data := .fields #[.ref l, .int 0 0] }).objs.size)))
        { s with heap := (s.heap.push { cls := .type "tuple_iterator", data := .fields #[.ref l, .int 0 0] }).push { cls := .type "enumerate", data := .fields #[.none, .bool false, .ref s.heap.objs.size, rawInt 0, .none, .none] } }) :=
  .of_wp fun prog w A R s h => by
    obtain ⟨hp, g, d, tk, os⟩ := s; obtain ⟨hl, h⟩ := h
    have hsub := sub_enumerate
    have hL : Heap.IsTuple (Shared.heap ⟨hp, g, d, tk, os⟩) l items := ⟨_, hl, rfl, n, rfl⟩
    wp_walk using AutoSeq1.wpAny_loadPart' hl
    refine wpAny_stack_any fun st => wpAny_pure ?_
    split
    · rename_i c _ _ _ _ _
      cases (c == Value.type "enumerate")
      · wp_walk using AutoSeq1.wpAny_loadPart' hl, wpAny_pyIter_tuple hL
        exact ⟨_, rfl, h⟩
      · wp_walk using AutoSeq1.wpAny_loadPart' hl, wpAny_pyIter_tuple hL
        exact ⟨_, rfl, h⟩
    · wp_walk using AutoSeq1.wpAny_loadPart' hl, wpAny_pyIter_tuple hL
      exact ⟨_, rfl, h⟩
section
variable {prog : Program} {w : World} {A : Around} {E : Value → Shared → Prop} {s : Shared}
theorem call_enumerate_tup {l : Addr} {items : Array Value} {Q : Value → Shared → Prop} (hL : s.heap.IsTuple l items)
    (h : ∀ h', IsEnum h' (s.heap.objs.size + 1) s.heap.objs.size 0 .none → h'.IsTupleIter s.heap.objs.size l 0 → h'.objs.size = s.heap.objs.size + 2 →
      (∀ b o, s.heap.get? b = some o → h'.get? b = some o) → Q (.ref (s.heap.objs.size + 1)) { s with heap := h' }) :
    wpAny (model prog w) A (call (.type "enumerate") [.ref l]) Q E s := by
  obtain ⟨⟨c, dct, dt, sl⟩, hl, hc, n, hd⟩ := hL
  replace hc : c = .type "tuple" := hc
  replace hd : dt = .seq items n := hd
  subst hc hd
  refine callType_new F.called_enumerate (by decide) (F.typeCall_enumerate_1 _) (F.newCall_enumerate_1 _) (fun obj => F.args_object_init_2 obj _) F.entry_enumerate_new
    (meets_enum_newT l items n dct sl) ⟨hl, ?_⟩
  have hz : (s.heap.push { cls := .type "tuple_iterator", data := .fields #[.ref l, .int 0 0] }).objs.size = s.heap.objs.size + 1 := Heap.size_push ..
  show _ ∧ _
  rw [hz]
  have he : IsEnum ((s.heap.push { cls := .type "tuple_iterator", data := .fields #[.ref l, .int 0 0] }).push
      { cls := .type "enumerate", data := .fields #[.none, .bool false, .ref s.heap.objs.size, rawInt 0, .none, .none] }) (s.heap.objs.size + 1) s.heap.objs.size 0 .none := by
    have := Heap.get?_push_size (s.heap.push { cls := .type "tuple_iterator", data := .fields #[.ref l, .int 0 0] })
      (o := { cls := .type "enumerate", data := .fields #[.none, .bool false, .ref s.heap.objs.size, rawInt 0, .none, .none] }) rfl
    rw [hz] at this; exact this
  refine ⟨⟨_, he, rfl⟩, h _ he ⟨_, Heap.get?_push_of_some _ (Heap.get?_push_size _ rfl), rfl, rfl⟩ (by rw [Heap.size_push, hz]) fun b o x => Heap.get?_push_of_some _ (Heap.get?_push_of_some _ x)⟩
end
/-- the tuple at a, each item in a new pair -/
def ItnT (K : PySem.W.Frag) (a : Addr) : L2.It :=
  ⟨fun i H => ∃ (xs : List V) (x : V), SqT K H a xs ∧ xs[i]? = some x, fun i H v H' => ∃ T x, v = .ref T ∧ H T = none ∧ H' = upd H T (.tup [.int (i : Nat), x]) ∧ ∀ xs, SqT K H a xs → xs[i]? = some x, fun i H => ∃ xs : List V, SqT K H a xs ∧ xs.length ≤ i⟩
theorem turn_enumT {P : Program} {w : World} {K : PySem.W.Frag} {elts : List Expr} {kk : Nat} {tpos : Pos} (a e it : Addr) (hai : a ≠ it) :
    Turn P w K (.Tuple elts kk tpos) (ItnT K a) [e, it] e (fun i h => (∃ old, IsEnum h e it ((i : Nat) : Int) old) ∧ h.IsTupleIter it a i ∧ e ≠ it) where
  mem := by simp
  obj := fun i h st b hb => by
    obtain ⟨⟨old, he⟩, ⟨o, ho, hc, hd⟩, _⟩ := st
    have e' : b = e ∨ b = it := by simpa using hb
    rcases e' with z | z
    · rw [z]; exact ⟨_, he, fun v q => nomatch q⟩
    · rw [z]; exact ⟨o, ho, fun v q => by rw [hd] at q; cases q⟩
  keep := fun i h h' st k => let ⟨⟨old, he⟩, hi, hne⟩ := st; ⟨⟨old, k e (by simp) _ he⟩, hi.at fun o q => k it (by simp) o q, hne⟩
  item := by
    intro X hP hw hK hc i pins s σ H E I hf st hg
    subst hP hw hK
    obtain ⟨⟨old, he⟩, hit, hne⟩ := st
    obtain ⟨xs, x, hq, hx⟩ := hg
    obtain ⟨its, rv, p, hz⟩ := I.tuple hq
    obtain ⟨u, hu, ru⟩ := rv.get hx
    have hel : e < s.heap.objs.size := Heap.lt_size he
    have hil : it < s.heap.objs.size := by obtain ⟨_, q, _⟩ := hit; exact Heap.lt_size q
    have hlt : i < its.length := by
      have := (List.getElem?_eq_some_iff.mp hu).1
      exact this
    have hea : e ≠ a := fun z => by
      obtain ⟨o, ho, hcl, _⟩ := p
      have he' : s.heap.get? e = some _ := he
      rw [z, ho] at he'
      cases he'
      have hcl' : Value.type "enumerate" = Value.type "tuple" := hcl
      exact absurd hcl' (by decide)
    have hD := Draws.tuple (prog := X.prog) (w := X.w) (A := X.A.in1) (show X.A.in1.handled = none from I.ok.hd hc) it a hai its.toArray
    refine wpAny_pyNext_enum_itemD hD he ⟨hit, p⟩ (by simpa using hlt) hne (by simp [hne, hea]) fun y h' tk hy ho hit' hT hsz hk => ?_
    have ey : y = u := by
      have : its.toArray[i]? = some u := by simpa using hu
      rw [this] at hy
      exact (Option.some.inj hy).symm
    subst ey
    refine ⟨_, rfl, wpAny_letOwnedTupleGo_enum (s := { s with heap := h', toks := tk + 1 }) ho fun h'' he' sb => ?_⟩
    have hT2 : h''.get? s.heap.objs.size = some { cls := .type "tuple", data := .seq #[.int i tk, y] } := (sb.2 _ (Nat.ne_of_gt hel)).trans hT
    have new : ObjOk X.prog X.w (upd H s.heap.objs.size (.tup [.int (i : Nat), x])) h'' s.heap.objs.size (.tup [.int (i : Nat), x]) :=
      ⟨by show 2 ≤ sizeLine; decide, [.int i tk, y], .cons ⟨_, rfl⟩ (.cons ru .nil), ⟨_, hT2, rfl, _, rfl⟩⟩
    have I1 : Inv X pins σ (upd H s.heap.objs.size (.tup [.int (i : Nat), x])) { s with heap := h'', toks := tk + 1 } :=
      I.turnedNew (ch := [e, it]) (fun b ob hb q => (sb.2 b (fun z => hb (by simp [z]))).trans (hk b ob (fun z => hb (by simp [z])) (fun z => hb (by simp [z])) q)) hf (Nat.le_refl _) new
    refine ⟨.ref s.heap.objs.size, _, I1, rfl, ⟨_, x, rfl, I.hok.fresh (Nat.le_refl _), rfl, fun ys hy => by rw [I.tuple_inj hy hq]; exact hx⟩, ⟨⟨y, ?_⟩, hit'.1.at fun o q => (sb.2 it (Ne.symm hne)).trans q, hne⟩, fun b hb => ?_⟩
    · have e1 : ((i + 1 : Nat) : Int) = (i : Int) + 1 := by omega
      rw [e1]; exact he'
    · have hb' : b < s.heap.objs.size := by
        have e' : b = e ∨ b = it := by simpa using hb
        rcases e' with z | z
        · rw [z]; exact hel
        · rw [z]; exact hil
      rw [upd_ne (Nat.ne_of_lt hb')]
      exact (hf b hb).1
  done := by
    intro X hP hw hK hc i pins s σ H E I hf st hg
    subst hP hw hK
    obtain ⟨⟨old, he⟩, hit, hne⟩ := st
    obtain ⟨xs, hq, hx⟩ := hg
    obtain ⟨its, rv, p, hz⟩ := I.tuple hq
    obtain ⟨f0, f1, f2, f3, f4, f5⟩ := hf it (by simp)
    have hl := rv.length
    have hT : s.TypeIs (.ref e) "enumerate" := ⟨_, he, rfl⟩
    unfold pyNext
    refine wpAny_bind (wpAny_attempt (wpAny_callSpecial?_slot (name := Str.ofString "__next__") hT F.slot_enumerate_next
      (wpAny_call_entry F.slot_enumerate_next hT F.entry_enumerate_next ?_ (F.args_enumerate_next_1 _))))
    show wpAny _ _ (field (.ref e) 2 >>= _) _ _ _
    refine wpAny_bind (wpAny_field he rfl (x := .ref it) rfl ?_)
    refine wpAny_bind (wpAny_nextOf_tuple_end (show X.A.in1.handled = none from I.ok.hd hc) hit (show s.heap.IsTuple a its.toArray from p) (by simp; omega) fun h' x he' hx' => ?_)
    obtain ⟨o, ho, hcl⟩ := hx'
    refine wpAny_bind (wpAny_isInstance (T := "StopIteration") (b := true) ⟨o, ho, hcl⟩ isSubtype_stop ?_)
    exact wpAny_pure ⟨rfl, I.turned (t' := s.toks) (fun b o hb q => he' b o hb q) f0 f1 f3 f4 f5⟩
  self := fun A i s Q E st h => let ⟨⟨_, he⟩, _⟩ := st; wpAny_pyIter_enum he h
def iEnumT (K : PySem.W.Frag) (ta : TA) : TI := fun σ H R => ta σ H fun vs H1 => ∃ a xs, vs = [.ref a] ∧ SqT K H1 a xs ∧ R (ItnT K a) H1
theorem pi_enumT {X : Cx} {e : Expr} {ta : TA} {p pos tpos : Pos} {elts : List Expr} {kk : Nat} (hg : Gl X "enumerate") (hm : X.mg "enumerate" = none) (ha : PA X [e] ta) (hs : starEach [e] X.env = [(false, eval e X.env)]) :
    PI X (.Tuple elts kk tpos) (.Call (.Name "enumerate" p) [e] [] pos) (iEnumT X.K ta) := by
  refine ⟨fun pins s σ H R I h => ?_⟩
  refine Call_ (ld_blt I hg hm boot_enumerate (PyProof.Rows.callWith_type1 (thn (ha.run pos pins s σ H _ I h) fun us s1 ⟨vs, H1, I1, r1, q1⟩ => ?_) hs rfl))
  obtain ⟨a, xs, ex, hq, q⟩ := q1
  subst ex
  cases r1 with
  | cons r rr =>
    cases rr
    cases r
    obtain ⟨its, rv, p', hz⟩ := I1.tuple hq
    have hal : a < s1.heap.objs.size := p'.lt
    refine call_enumerate_tup (show s1.heap.IsTuple a its.toArray from p') fun h' he hit hsz hk => wpAny_pyIter_enum he ?_
    have I2 : Inv X pins σ H1 { s1 with heap := h' } := I1.kept (t' := s1.toks) hk
    refine ⟨s1.heap.objs.size + 1, [s1.heap.objs.size + 1, s1.heap.objs.size], _, _, H1, rfl, I2, turn_enumT a (s1.heap.objs.size + 1) s1.heap.objs.size (Nat.ne_of_lt hal), ⟨⟨.none, he⟩, hit, Nat.succ_ne_self _⟩, fun b hb => ?_, q⟩
    have e' : b = s1.heap.objs.size + 1 ∨ b = s1.heap.objs.size := by simpa using hb
    have hle : s1.heap.objs.size ≤ b := by
      rcases e' with z | z <;> rw [z]
      · exact Nat.le_succ _
      · exact Nat.le_refl _
    exact I1.fpOk hle (I1.hok.fresh hle)
/-! ### a sequence, list or tuple -/
def iSeq (K : PySem.W.Frag) (tl : TE) : TI := fun σ H R => tl σ H fun x H1 => (∃ a xs, x = .ref a ∧ SqL K H1 a xs ∧ R (Itl K a) H1) ∨ (∃ a xs, x = .ref a ∧ SqT K H1 a xs ∧ R (Itt K a) H1)
theorem pi_seq {X : Cx} {tg l : Expr} {tl : TE} (hl : PE X l tl) : PI X tg l (iSeq X.K tl) := by
  refine ⟨fun pins s σ H R I h => ?_⟩
  refine thn (hl.run pins s σ H _ I h) fun v s1 ⟨x, H1, I1, r1, q1⟩ => ?_
  have fp : ∀ b ∈ [s1.heap.objs.size], FpOk X pins H1 b := fun b hb => by
    have e : b = s1.heap.objs.size := by simpa using hb
    subst e
    exact I1.fpOk (Nat.le_refl _) (I1.hok.fresh (Nat.le_refl _))
  rcases q1 with ⟨a, xs, e, hq, q⟩ | ⟨a, xs, e, hq, q⟩
  · subst e
    cases r1
    obtain ⟨its, rv, p, hz⟩ := I1.list hq
    refine wpAny_pyIter_list p.isList ?_
    exact ⟨s1.heap.objs.size, [s1.heap.objs.size], _, _, H1, rfl, I1.kept (t' := s1.toks) fun b o e => Heap.get?_push_of_some _ e, turn_list a _, ⟨_, Heap.get?_push_size _ rfl, rfl, rfl⟩, fp, q⟩
  · subst e
    cases r1
    obtain ⟨its, rv, p, hz⟩ := I1.tuple hq
    refine wpAny_pyIter_tuple (show s1.heap.IsTuple a its.toArray from p) ?_
    exact ⟨s1.heap.objs.size, [s1.heap.objs.size], _, _, H1, rfl, I1.kept (t' := s1.toks) fun b o e => Heap.get?_push_of_some _ e, turn_tuple a _, ⟨_, Heap.get?_push_size _ rfl, rfl, rfl⟩, fp, q⟩
end Nk
end
section
set_option Elab.async false
set_option linter.all false
set_option maxRecDepth 100000
set_option maxHeartbeats 4000000
/-! calls of defs; walks told by plain values -/
namespace Nk
open PySem PySem.Spec PyProof.Rows L2
section
variable {G : Gx} {X : Cx} {k : Nat} {T : TL} {c : Cl} {cal : Nat → List D → Nk.M D} {E0 : XK} {own : Nat → Bool}
theorem Res.notStuck {α : Type} {a0 : Addr} {M : Addr → Prop} {H : Hp} {r : R α} {K : α → Hp → Sr → Prop} (h : Res T c E0 a0 M H r K) : r ≠ .stuck := fun e => by rw [e] at h; exact h
theorem tCall_of {i n : Nat} {irs : Es} (hl : ∀ ds st, cal i ds st ≠ .stuck → ds.length = n) : ∀ σ H Q, (tE T c cal E0 own) (.call i irs) σ H Q → tCall (spD T c cal i n) [] E0 ((tEs T c cal E0 own) irs) σ H Q := fun σ H Q ⟨a0, M, st, ρ, hs, he, r⟩ => by
  have r : Res T c E0 a0 M H (bnd (evEs cal irs ρ) (fun xs => cal i xs) st) _ := r
  refine ⟨a0, M, st, ρ, hs, he, r.bnd.mono fun ds H1 st1 x hs1 r1 vs hv => ?_⟩
  show spD T c cal i n (vs ++ []) H1 Q E0
  rw [List.append_nil]
  exact ⟨by rw [hv.length]; exact hl ds st1 r1.notStuck, a0, M, st1, ds, hs1, hv, r1⟩
theorem L_call (g : Gd G X k T c cal E0) {S : Sx} (f : Fit X S own E0) {fx : Str} {i : Nat} {e : Expr} {es : List Expr} {irs : Es} {p pos : Pos} (hg : isGl S fx = true) (hf : G.fid fx = some i) (ha : PA X (e :: es) ((tEs T c cal E0 own) irs)) (hn : ∀ a ∈ e :: es, noStar a = true) :
    PE X (.Call (.Name fx p) (e :: es) [] pos) ((tE T c cal E0 own) (.call i irs)) := by
  obtain ⟨h1, h2, h3⟩ := isGl_of f hg
  obtain ⟨fa, fd, ps, hm, hk, hb, hl, F⟩ := g.fns fx i hf
  exact PE.imp (pe_call (sp := spD T c cal i ps.length) F g.room h1 hm hk hb .nil g.passes ha h2 (shape_star (hn e List.mem_cons_self) es X.env) (noStars X.env pos fun a h => hn a (List.mem_cons_of_mem _ h))) (tCall_of hl)
theorem L_call0 (g : Gd G X k T c cal E0) {S : Sx} (f : Fit X S own E0) {fx : Str} {i : Nat} {p pos : Pos} (hg : isGl S fx = true) (hf : G.fid fx = some i) : PE X (.Call (.Name fx p) [] [] pos) ((tE T c cal E0 own) (.call i .nil)) := by
  obtain ⟨h1, h2, h3⟩ := isGl_of f hg
  obtain ⟨fa, fd, ps, hm, hk, hb, hl, F⟩ := g.fns fx i hf
  refine PE.imp (pe_call0 (sp := spD T c cal i ps.length) F g.room h1 hm hk hb .nil g.passes h2) fun σ H Q q => ?_
  obtain ⟨a0, M, st, ρ, hs, he, r⟩ := tCall_of (own := own) hl σ H Q q
  exact (show Res T c E0 a0 M H (ret [] st) _ from r).ret hs [] .nil

/-! ### what is walked -/
/-- the walk J yields what stands for ds, while what is known stays -/
def Gives (T : TL) (a0 : Addr) (M1 : Addr → Prop) (H1 : Hp) (J : L2.It) (ds : List D) : Prop :=
  ds.length ≤ line ∧ ∀ M H st, Later M1 H1 M H → Hs a0 M T H st → (∀ i, i < ds.length → J.go i H) ∧ J.stop ds.length H ∧ ∀ i x H' d, ds[i]? = some d → J.yld i H x H' → Ext a0 H H' ∧ (∀ b, H b ≠ none → H' b = H b) ∧ Hs a0 M T H' st ∧ Rep a0 M H' x d
def tIt (T : TL) (c : Cl) (cal : Nat → List D → Nk.M D) (E0 : XK) (own : Nat → Bool) (ir : Nk.It) : TI := fun σ H R => ∃ a0 M st ρ, Hs a0 M T H st ∧ EnvR a0 M own H σ ρ ∧ Res T c E0 a0 M H (evIt cal ir ρ st) fun ds H' _ => ∀ J, Gives T a0 M H' J ds → R J H'
theorem PI.imp {tg e : Expr} {t t' : TI} (h : PI X tg e t) (i : ∀ σ H R, t' σ H R → t σ H R) : PI X tg e t' := ⟨fun pins s σ H R I q => h.run pins s σ H R I (i σ H R q)⟩
variable {a0 : Addr} {M1 : Addr → Prop} {H1 : Hp} {K : PySem.W.Frag}
theorem gives_list {st : Sr} {a : Addr} {xs : List V} {ds : List D} (hs : Hs a0 M1 T H1 st) (e : H1 a = some (.lst xs)) (n : ¬ M1 a) (l : ds.length ≤ line) (q : Reps a0 M1 H1 xs ds) : Gives T a0 M1 H1 (Itl K a) ds := by
  refine ⟨l, fun M H st' lt hs' => ?_⟩
  have e' := lt.keep a _ e n fun ps z => by cases z
  have q' := lt.reps q hs.noTup
  have hl := q.length
  refine ⟨fun i hi => ?_, ⟨xs, SqL.of e', by omega⟩, fun i x H' d hd y => ?_⟩
  · obtain ⟨v, hv, _⟩ := q.get (List.getElem?_eq_getElem hi)
    exact ⟨xs, v, SqL.of e', hv⟩
  · obtain ⟨rfl, y⟩ := y
    obtain ⟨v, hv, hr⟩ := q'.get hd
    have := y xs (SqL.of e')
    rw [hv] at this
    cases this
    exact ⟨Ext.refl, fun _ _ => rfl, hs', hr⟩
theorem gives_tup {st : Sr} {a : Addr} {xs : List V} {ds : List D} (hs : Hs a0 M1 T H1 st) (e : H1 a = some (.tup xs)) (l : ds.length ≤ line) (q : Reps a0 M1 H1 xs ds) : Gives T a0 M1 H1 (Itt K a) ds := by
  refine ⟨l, fun M H st' lt hs' => ?_⟩
  have e' := lt.keep a _ e (hs.noTup a xs e) fun ps z => by cases z
  have q' := lt.reps q hs.noTup
  have hl := q.length
  refine ⟨fun i hi => ?_, ⟨xs, SqT.of e', by omega⟩, fun i x H' d hd y => ?_⟩
  · obtain ⟨v, hv, _⟩ := q.get (List.getElem?_eq_getElem hi)
    exact ⟨xs, v, SqT.of e', hv⟩
  · obtain ⟨rfl, y⟩ := y
    obtain ⟨v, hv, hr⟩ := q'.get hd
    have := y xs (SqT.of e')
    rw [hv] at this
    cases this
    exact ⟨Ext.refl, fun _ _ => rfl, hs', hr⟩
theorem range_len (j : Int) : (rangeD j).length = j.toNat := by unfold rangeD; rw [List.length_map, List.length_range]
theorem gives_range {j : Int} (l : j ≤ line) : Gives T a0 M1 H1 (Itr 0 j.toNat) (rangeD j) := by
  refine ⟨by rw [range_len]; have : (j.toNat : Int) ≤ max j 0 := by omega
             have h2 : (0 : Nat) ≤ line := Nat.zero_le _
             omega, fun M H st' lt hs' => ?_⟩
  refine ⟨fun i hi => by rw [range_len] at hi; exact hi, by rw [range_len]; exact Nat.le_refl _, fun i x H' d hd y => ?_⟩
  obtain ⟨rfl, rfl⟩ := y
  unfold rangeD at hd
  rw [List.getElem?_map] at hd
  obtain ⟨m, hm, rfl⟩ := Option.map_eq_some_iff.mp hd
  obtain ⟨h1, h2⟩ := List.getElem?_eq_some_iff.mp hm
  rw [List.getElem_range] at h2
  subst h2
  refine ⟨Ext.refl, fun _ _ => rfl, hs', ?_⟩
  rw [Int.zero_add]
  exact .int _
theorem enum_get : ∀ (ds : List D) (n i : Nat), (enumD n ds)[i]? = ds[i]?.map fun d => D.tup [.int ((n + i : Nat) : Int), d]
  | [], _, _ => rfl
  | d :: ds, n, 0 => by simp [enumD]
  | d :: ds, n, i + 1 => by
    show (enumD (n + 1) ds)[i]? = ds[i]?.map _
    rw [enum_get ds (n + 1) i]
    have : n + 1 + i = n + (i + 1) := by omega
    rw [this]
theorem enum_len : ∀ (ds : List D) (n : Nat), (enumD n ds).length = ds.length
  | [], _ => rfl
  | d :: ds, n => by show (enumD (n + 1) ds).length + 1 = _; rw [enum_len ds]; rfl
theorem two_line {α : Type} (a b : α) : [a, b].length ≤ line := by show 2 ≤ line; decide
theorem gives_enum {st : Sr} {a : Addr} {xs : List V} {ds : List D} (hs : Hs a0 M1 T H1 st) (e : H1 a = some (.tup xs)) (l : ds.length ≤ line) (q : Reps a0 M1 H1 xs ds) : Gives T a0 M1 H1 (ItnT K a) (enumD 0 ds) := by
  refine ⟨by rw [enum_len]; exact l, fun M H st' lt hs' => ?_⟩
  rw [enum_len]
  have e' := lt.keep a _ e (hs.noTup a xs e) fun ps z => by cases z
  have q' := lt.reps q hs.noTup
  have hl := q.length
  refine ⟨fun i hi => ?_, ⟨xs, SqT.of e', by omega⟩, fun i x H' d hd y => ?_⟩
  · obtain ⟨v, hv, _⟩ := q.get (List.getElem?_eq_getElem hi)
    exact ⟨xs, v, SqT.of e', hv⟩
  · obtain ⟨p, v, rfl, hp, rfl, y⟩ := y
    rw [enum_get] at hd
    obtain ⟨d', hd', rfl⟩ := Option.map_eq_some_iff.mp hd
    obtain ⟨v', hv, hr⟩ := q'.get hd'
    have := y xs (SqT.of e')
    rw [hv] at this
    cases this
    refine ⟨Ext.new hp, fun b hb => upd_ne (fun z => hb (z ▸ hp)), hs'.new hp, ?_⟩
    have r2 := (Ext.new (a0 := a0) (o := .tup [.int (i : Nat), v]) hp).rep hs' hr
    rw [Nat.zero_add]
    exact .tup upd_same (two_line _ _) (.cons (.int _) (.cons r2 .nil))
theorem zip_get : ∀ (ds es : List D) (i : Nat), (zipD ds es)[i]? = match ds[i]?, es[i]? with
    | some a, some b => some (D.tup [a, b])
    | _, _ => none
  | [], es, i => by simp [zipD]
  | d :: ds, [], i => by
    simp only [zipD, List.getElem?_nil]
    cases (d :: ds)[i]? <;> rfl
  | d :: ds, e :: es, 0 => by simp [zipD]
  | d :: ds, e :: es, i + 1 => by
    show (zipD ds es)[i]? = _
    rw [zip_get ds es i]; rfl
theorem zip_len : ∀ (ds es : List D), (zipD ds es).length = min ds.length es.length
  | [], es => by simp [zipD]
  | d :: ds, [] => by simp [zipD]
  | d :: ds, e :: es => by
    show (zipD ds es).length + 1 = min (ds.length + 1) (es.length + 1)
    rw [zip_len ds es]; omega
theorem gives_zip {st : Sr} {a b : Addr} {xs ys : List V} {ds es : List D} (hs : Hs a0 M1 T H1 st) (e : H1 a = some (.tup xs)) (l : ds.length ≤ line) (q : Reps a0 M1 H1 xs ds) (f : H1 b = some (.tup ys)) (q2 : Reps a0 M1 H1 ys es) : Gives T a0 M1 H1 (RZ.ItzT K a b) (zipD ds es) := by
  refine ⟨by rw [zip_len]; omega, fun M H st' lt hs' => ?_⟩
  rw [zip_len]
  have e' := lt.keep a _ e (hs.noTup a xs e) fun ps z => by cases z
  have f' := lt.keep b _ f (hs.noTup b ys f) fun ps z => by cases z
  have q' := lt.reps q hs.noTup
  have q2' := lt.reps q2 hs.noTup
  have hl := q.length
  have hl2 := q2.length
  refine ⟨fun i hi => ?_, ⟨xs, ys, SqT.of e', SqT.of f', by omega⟩, fun i x H' d hd y => ?_⟩
  · obtain ⟨v, hv, _⟩ := q.get (List.getElem?_eq_getElem (show i < ds.length by omega))
    obtain ⟨u, hu, _⟩ := q2.get (List.getElem?_eq_getElem (show i < es.length by omega))
    exact ⟨xs, ys, v, u, SqT.of e', SqT.of f', hv, hu⟩
  · obtain ⟨p, v, u, rfl, hp, rfl, y1, y2⟩ := y
    rw [zip_get] at hd
    split at hd
    · rename_i d1 d2 h1 h2
      cases hd
      obtain ⟨v', hv, hr⟩ := q'.get h1
      obtain ⟨u', hu, hr2⟩ := q2'.get h2
      have z1 := y1 xs (SqT.of e')
      rw [hv] at z1
      cases z1
      have z2 := y2 ys (SqT.of f')
      rw [hu] at z2
      cases z2
      refine ⟨Ext.new hp, fun b hb => upd_ne (fun z => hb (z ▸ hp)), hs'.new hp, ?_⟩
      exact .tup upd_same (two_line _ _) (.cons ((Ext.new hp).rep hs' hr) (.cons ((Ext.new hp).rep hs' hr2) .nil))
    · cases hd
theorem L_seq {tg e : Expr} {ir : E} (h : PE X e ((tE T c cal E0 own) ir)) : PI X tg e (tIt T c cal E0 own (.seq ir)) := by
  refine PI.imp (pi_seq h) fun σ H R q => ?_
  obtain ⟨a0, M, st, ρ, hs, he, r⟩ := q
  have r : Res T c E0 a0 M H (bnd (evE cal ir ρ) items st) _ := r
  refine ⟨a0, M, st, ρ, hs, he, r.bnd.mono fun d H1 st1 x hs1 r1 v hv => ?_⟩
  cases d with
  | lst ds =>
    cases hv with
    | lst e n l q => exact .inl ⟨_, _, rfl, SqL.of e, (show Res T c E0 a0 M H1 (ret ds st1) _ from r1).ret hs1 _ (gives_list hs1 e n l q)⟩
  | tup ds =>
    cases hv with
    | tup e l q => exact .inr ⟨_, _, rfl, SqT.of e, (show Res T c E0 a0 M H1 (ret ds st1) _ from r1).ret hs1 _ (gives_tup hs1 e l q)⟩
  | _ => exact r1.elim
theorem L_range (g : Gd G X k T c cal E0) {S : Sx} (f : Fit X S own E0) {tg e : Expr} {ir : E} {p pos : Pos} (hg : isGl S ("range" : Str) = true) (h : PE X e ((tE T c cal E0 own) ir)) (hsh : shapeOk e = true) : PI X tg (.Call (.Name ("range" : Str) p) [e] [] pos) (tIt T c cal E0 own (.range ir)) := by
  obtain ⟨h1, h2, h3⟩ := isGl_of f hg
  have h4 := shape_star (shape_noStar hsh) [] X.env
  refine PI.imp (pi_range1 h1 (g.free _ (by decide +kernel)) (pa_cons h pa_nil h4) h4) fun σ H R q => ?_
  obtain ⟨a0, M, st, ρ, hs, he, r⟩ := q
  have r : Res T c E0 a0 M H (bnd (evE cal ir ρ) (fun x => match x with | .int j => if small j ∧ j ≤ line then ret (rangeD j) else stk | _ => stk) st) _ := r
  refine ⟨a0, M, st, ρ, hs, he, r.bnd.mono fun d H1 st1 x hs1 r1 v hv => ?_⟩
  cases d with
  | int j =>
    cases hv
    have r1 : Res T c E0 a0 M H1 ((if small j ∧ j ≤ line then ret (rangeD j) else stk : Nk.M (List D)) st1) _ := r1
    split at r1
    · rename_i hj
      have hj' := small_ok hj.1
      exact ⟨j, rfl, hj'.1, hj'.2, r1.ret hs1 _ (gives_range hj.2)⟩
    · exact r1.elim
  | _ => exact r1.elim
theorem L_enum (g : Gd G X k T c cal E0) {S : Sx} (f : Fit X S own E0) {ts : List Expr} {kk : Nat} {tp : Pos} {e : Expr} {ir : E} {p pos : Pos} (hg : isGl S ("enumerate" : Str) = true) (h : PE X e ((tE T c cal E0 own) ir)) (hsh : shapeOk e = true) : PI X (.Tuple ts kk tp) (.Call (.Name ("enumerate" : Str) p) [e] [] pos) (tIt T c cal E0 own (.enum ir)) := by
  obtain ⟨h1, h2, h3⟩ := isGl_of f hg
  have h4 := shape_star (shape_noStar hsh) [] X.env
  refine PI.imp (pi_enumT h1 (g.free _ (by decide +kernel)) (pa_cons h pa_nil h4) h4) fun σ H R q => ?_
  obtain ⟨a0, M, st, ρ, hs, he, r⟩ := q
  have r : Res T c E0 a0 M H (bnd (evE cal ir ρ) (fun x => match x with | .tup a => ret (enumD 0 a) | _ => stk) st) _ := r
  refine ⟨a0, M, st, ρ, hs, he, r.bnd.mono fun d H1 st1 x hs1 r1 v hv => ?_⟩
  cases d with
  | tup ds =>
    cases hv with
    | tup e l q => exact ⟨_, _, rfl, SqT.of e, (show Res T c E0 a0 M H1 (ret (enumD 0 ds) st1) _ from r1).ret hs1 _ (gives_enum hs1 e l q)⟩
  | _ => exact r1.elim
theorem L_zip (g : Gd G X k T c cal E0) {S : Sx} (f : Fit X S own E0) {ts : List Expr} {kk : Nat} {tp : Pos} {e1 e2 : Expr} {i1 i2 : E} {p pos : Pos} (hg : isGl S ("zip" : Str) = true) (h : PE X e1 ((tE T c cal E0 own) i1)) (h' : PE X e2 ((tE T c cal E0 own) i2)) (s1 : shapeOk e1 = true) (s2 : shapeOk e2 = true) : PI X (.Tuple ts kk tp) (.Call (.Name ("zip" : Str) p) [e1, e2] [] pos) (tIt T c cal E0 own (.zip i1 i2)) := by
  obtain ⟨h1, h2, h3⟩ := isGl_of f hg
  have h4 := shape_star (shape_noStar s1) [e2] X.env
  have h5 := shape_star (shape_noStar s2) [] X.env
  refine PI.imp (RZ.pi_zipA h1 (g.free _ (by decide +kernel)) (pa_cons h (pa_cons h' pa_nil h5) h4) h4 (noStars X.env pos fun a ha => by rw [List.mem_singleton.mp ha]; exact shape_noStar s2)) fun σ H R q => ?_
  obtain ⟨a0, M, st, ρ, hs, he, r⟩ := q
  have r : Res T c E0 a0 M H (bnd (evE cal i1 ρ) (fun x => bnd (evE cal i2 ρ) fun y => match x, y with | .tup a, .tup b => ret (zipD a b) | _, _ => stk) st) _ := r
  refine ⟨a0, M, st, ρ, hs, he, r.bnd.mono fun d1 H1 st1 x1 hs1 r1 v hv => ?_⟩
  refine ⟨a0, M, st1, ρ, hs1, he.ext hs x1, r1.bnd.mono fun d2 H2 st2 x2 hs2 r2 u hu => ?_⟩
  have hv2 := x2.rep hs1 hv
  cases d1 with
  | tup ds =>
    cases d2 with
    | tup es =>
      cases hv2 with
      | tup e l q =>
        cases hu with
        | tup e' l' q' => exact ⟨_, _, _, _, rfl, .inr ⟨SqT.of e, SqT.of e', (show Res T c E0 a0 M H2 (ret (zipD ds es) st2) _ from r2).ret hs2 _ (gives_zip hs2 e l q e' q')⟩⟩
    | _ => exact r2.elim
  | _ => cases d2 <;> exact r2.elim
end
end Nk
end
section
set_option Elab.async false
set_option linter.all false
set_option maxRecDepth 100000
set_option maxHeartbeats 4000000
/-! an exception out of a comprehension; comprehensions whose elements may raise -/
namespace Nk
open PySem PySem.Spec PyProof.Rows L2
section
variable {X : Cx} {E0 : XK}
abbrev blkE (X : Cx) (ce : PySem.Env) : Value → Shared → Prop := notedBy (model X.prog X.w) X.A ce (CompFails (model X.prog X.w) X.A X.xe ce)
theorem flying_less {B B' : Heap} {l : List PySem.Env} {a : Addr} {Z : Obj → Prop} {h : Heap} (fl : HandSPX.FlyingZ B l a Z h) (k : ∀ b o, B'.get? b = some o → B.get? b = some o) : HandSPX.FlyingZ B' l a Z h := by
  have no : ∀ b, B.get? b = none → B'.get? b = none := fun b n => by
    cases e : B'.get? b with
    | none => rfl
    | some o => rw [k b o e] at n; cases n
  obtain ⟨h1, h2, h3, oe, vs, Tb, oT, ts, q1, q2, q3, q4, q5, q6⟩ := fl
  exact ⟨fun b o e => h1 b o (k b o e), no _ h2, funFrames_none h3 fun L hL => no L (h3.mem hL).1, oe, vs, Tb, oT, ts, q1, q2, q3, q4, no _ q5, q6⟩
theorem blk_raise {pins pinsb : List (Addr × Obj)} {σ σb : L2.St} {H3 Hb : Hp} {s3 s s' : Shared} {scope : Scope} {cl : List (Str × Addr)} {fp : List Addr} {E' : Value → Shared → Prop} {u : Value} (dx : Df' X E0)
    (I3 : Inv X pins σ H3 s3) (f3 : ∀ b ∈ fp, FpOk X pins H3 b ∧ b < s3.heap.objs.size)
    (I : Inv ((X.blk s3 H3 scope (compEnvC scope cl s3.heap.objs.size X.env) fp).wish E') pinsb σb Hb s) (cx : L2N.CX X.prog X.w X.stack Hb s E0 u s') : blkE X (compEnvC scope cl s3.heap.objs.size X.env) u s' := by
  obtain ⟨a, B, H', cls, d, rfl, fl, hok, ub, na, os, ag, hE⟩ := cx
  generalize hC : s3.heap.objs.size = C at I
  have hfr : X.A.frames = some (X.env :: X.outer) := by rw [I3.ok.frames, dx.st]
  have cS : ∀ b o, s3.heap.get? b = some o → b ≠ C := fun b o e => by rw [← hC]; exact Nat.ne_of_lt (Heap.lt_size e)
  have cF : C ∉ frs X.stack := fun hm => by
    rw [← hC] at hm
    obtain ⟨_, o, e, _⟩ := I3.stack.mem hm
    exact absurd (Heap.lt_size e) (Nat.lt_irrefl _)
  obtain ⟨mC, hnC, _⟩ := I.loc
  have hnC : s.heap.Ns C mC := hnC
  have fC : Hb C = none := I.free
  obtain ⟨oC, esC, epC, eC, dC, rC⟩ := id hnC
  have BC : B.get? C = some oC := ub.keep C oC eC fC cF
  have fC' : H' C = none := ub.free C oC eC fC
  have base : Un (frs X.stack) fp H3 Hb s3.heap s.heap := I.base
  -- the ground without the block's names
  have kB : ∀ b o, (PySem.W.hideAll B [C]).get? b = some o → B.get? b = some o := fun b o e => PySem.W.of_hideAll _ e
  have kB2 : ∀ b o, B.get? b = some o → b ≠ C → (PySem.W.hideAll B [C]).get? b = some o := fun b o e n => PySem.W.hideAll_get _ e (by simp [n])
  have nB : (PySem.W.hideAll B [C]).get? C = none := PySem.W.hideAll_none _ (by simp)
  generalize hB' : PySem.W.hideAll B [C] = B' at kB kB2 nB
  obtain ⟨G, g1, g2⟩ := restrict s'.heap fun b => (B'.get? b).isSome || decide (b ∈ frs X.stack)
  have st : B'.StaysIn s'.heap := fun b o e => fl.1 b o (kB b o e)
  have gB : ∀ b o, B'.get? b = some o → G.get? b = some o := fun b o e => by
    rw [g1 b (by simp [e])]
    exact st b o e
  have gF : ∀ b, b ∈ frs X.stack → G.get? b = s'.heap.get? b := fun b hb => g1 b (by simp [hb])
  have og : ∀ b o, G.get? b = some o → s'.heap.get? b = some o ∧ ((B'.get? b).isSome = true ∨ b ∈ frs X.stack) := fun b o e => by
    cases q : ((B'.get? b).isSome || decide (b ∈ frs X.stack)) with
    | false => rw [g2 b q] at e; cases e
    | true =>
      rw [g1 b q] at e
      exact ⟨e, by simpa [Bool.or_eq_true] using q⟩
  have gC : ∀ b o, G.get? b = some o → b ≠ C := fun b o e z => by
    subst z
    rcases (og _ o e).2 with q | q
    · rw [nB] at q; cases q
    · exact cF q
  have hokG : HOk X.prog X.w H' G := fun b o e => (hok b o e).stay (fun c' w' hc q => gB c' w' (kB2 c' w' q (fun z => by
    rcases hc with hc | hc
    · rw [← hc, z, fC'] at e; cases e
    · rw [z, fC'] at hc; cases hc))) (fun _ q => q) fun _ _ q => q
  have un : Un (frs X.stack) fp H3 H' s3.heap G := by
    refine ⟨fun b o e n hb hx => ?_, fun b o e n hb hx => ?_, fun b o e n hx => ?_, fun b o e hx => ?_, fun b xs e => ub.tups b xs (base.tups b xs e), fun b o xs e => ub.frzs b o xs (base.frzs b o xs e), fun b ps e => ?_⟩
    · exact gB b o (kB2 b o (ub.keep b o (base.keep b o e n hb hx) (base.free b o e n hx) hb) (cS b o e))
    · obtain ⟨sl, e1⟩ := base.slot b o e n hb hx
      obtain ⟨sl', e2⟩ := ub.slot b _ e1 hb
      exact ⟨sl', by rw [gF b hb]; exact e2⟩
    · obtain ⟨o', e1⟩ := base.there b o e hx
      exact ub.free b o' e1 (base.free b o e n hx)
    · obtain ⟨o', e1⟩ := base.there b o e hx
      by_cases hb : b ∈ frs X.stack
      · obtain ⟨sl, e2⟩ := ub.slot b o' e1 hb
        exact ⟨_, by rw [gF b hb]; exact e2⟩
      · obtain ⟨o2, e2⟩ := ub.there b o' e1 hb
        exact ⟨o2, gB b o2 (kB2 b o2 e2 (cS b o e))⟩
    · obtain ⟨m1, e1⟩ := base.tbls b ps e
      obtain ⟨m2, e2⟩ := ub.tbls b _ e1
      exact ⟨m1 ++ m2, by rw [e2, Array.append_assoc]⟩
  have J : Inv X pins σ H' { s3 with heap := G, gens := s'.gens, drawn := s'.drawn, toks := s'.toks } :=
    I3.call' (ch := fp) rfl un hokG ag fun b hb => ⟨(f3 b hb).1.2.2.2.1, (f3 b hb).1.2.1, (f3 b hb).1.2.2.2.2.1, (f3 b hb).1.2.2.2.2.2⟩
  have osI : s'.os = s3.os := os.trans I.os
  -- the flight, noted by the def's own frame
  show wpAny (model X.prog X.w) X.A (noteFrame (.ref a) (compEnvC scope cl C X.env)) _ _ s'
  rw [noteFrame_env (cenv := compEnvC scope cl C X.env) (env := X.env) (.ref a) rfl]
  have fl' : HandSPX.FlyingZ B' (X.env :: X.outer) a (L2N.Zn cls d) s'.heap := by rw [← dx.st]; exact flying_less fl kB
  refine PXN.looks_onZ L2N.Zn.steady hfr dx.fr fl' fun h1 hh1 up1 => ?_
  have sC : s'.heap.get? C = some oC := fl.1 C oC BC
  have n1 : h1.Ns C mC := by
    obtain ⟨sl, e⟩ := up1 C oC sC fun vs z => by rw [dC] at z; cases z
    exact ⟨_, esC, epC, e, dC, rC⟩
  refine ⟨mC, n1, fun h2 m2 n2 sb => ?_⟩
  have sb : Heap.SameBut C h1 h2 := sb
  have n2 : h2.Ns C m2 := n2
  have hh2 : HandSPX.HeldZ B' (X.env :: X.outer) a (L2N.Zn cls d) X.env.locals h2 := by
    obtain ⟨q1, q2, q3, oe, vs, Tb, oT, ts, e1, e2, e3, e4, e5, e6, e7, e8, e9⟩ := hh1
    have notC : ∀ {b : Addr} {o : Obj} {vs : Array Value}, h1.get? b = some o → o.data = .fields vs → b ≠ C := fun {b o vs} e dd z => by
      subst z
      obtain ⟨o', es, ep, e', d', _⟩ := n1
      rw [e] at e'; cases e'; rw [dd] at d'; cases d'
    refine ⟨fun b o e => (sb.2 b (fun z => by rw [z, nB] at e; cases e)).trans (q1 b o e), q2, Heap.FunFrames.sameBut sb n2 q3, oe, vs, Tb, oT, ts, (sb.2 a (notC e1 e3)).trans e1, e2, e3, e4, e5, e6, (sb.2 Tb (notC e7 e8)).trans e7, e8, e9⟩
  obtain ⟨_, _, _, oe, vs, Tb, oT, ts, e1, e2, e3, e4, _⟩ := id hh2
  unfold PySem.passOn
  refine wpAny_bind (wpAny_field e1 e3 e4 ?_)
  rw [if_neg (show ¬ ((Value.ref Tb == Value.none) = true) from by simp)]
  show wpAny _ _ (do setFlight (.ref a) X.env.frame; throw (.ref a)) _ _ _
  rw [dx.fr]
  refine wpAny_bind (HandSPX.setFlight_onZ hh2 fun h3 hh3 up3 => wpAny_throw (dx.tk _ _ ?_))
  refine ⟨a, B', _, pins, σ, H', cls, d, rfl, J, fun b o e hb => ?_, fun b o e hnf => ?_, .inr (.inr (by rw [dx.st]; exact hh3)), na, osI, ag, hE⟩
  · obtain ⟨e', q⟩ := og b o e
    rcases q with q | q
    · obtain ⟨o', q'⟩ := Option.isSome_iff_exists.mp q
      have z := st b o' q'
      rw [e'] at z; cases z
      exact q'
    · exact absurd q hb
  · obtain ⟨e', _⟩ := og b o e
    have nc := gC b o e
    obtain ⟨sl1, z1⟩ := up1 b o e' hnf
    have z2 := (sb.2 b nc).trans z1
    obtain ⟨sl3, z3⟩ := up3 b _ z2 hnf
    exact ⟨sl3, z3⟩
end
end Nk
end
section
set_option Elab.async false
set_option linter.all false
set_option maxRecDepth 100000
set_option maxHeartbeats 4000000
/-! comprehensions whose elements may raise -/
namespace Nk
open PySem PySem.Spec PyProof.Rows L2
section
variable {X : Cx} {E0 : XK}
/-- the block of a comprehension, its exceptions noted -/
abbrev blkX (X : Cx) (s : Shared) (H : Hp) (scope : Scope) (C : Addr) (cl : List (Str × Addr)) (fp : List Addr) : Cx := (X.blk s H scope (compEnvC scope cl C X.env) fp).wish (blkE X (compEnvC scope cl C X.env))
abbrev PassX (X : Cx) (E0 : XK) (Y : Cx) : Prop := Passes (L2N.CX X.prog X.w) Y E0
theorem lc_coreX {pins : List (Addr × Obj)} {s : Shared} {σ : L2.St} {H : Hp} {Q : VK} {elt tg iter : Expr} {ifs : List Expr} {scope : Scope} {own : List (Str × Nat)} {pos pos' : Pos} {wi : TI} {g : TG} {tt : TT} {te : TE} {use : Option (Value → Sem Unit)} {Qf : Value → Shared → Prop}
    (dx : Df' X E0) (hc : X.calm = true) (hN : X.N.Nodup) (I : Inv X pins σ H s) (hi : PI X tg iter wi) (ok : BlkOk X.N X.env.scope scope own)
    (hg : ∀ (s : Shared) (H : Hp) (C : Addr) (cl : List (Str × Addr)) (fp : List Addr), PassX X E0 (blkX X s H scope C cl fp) → PG (blkX X s H scope C cl fp) tg g) (ht : ∀ (s : Shared) (H : Hp) (C : Addr) (cl : List (Str × Addr)) (fp : List Addr), PassX X E0 (blkX X s H scope C cl fp) → PTs (blkX X s H scope C cl fp) ifs tt)
    (he : ∀ (s : Shared) (H : Hp) (C : Addr) (cl : List (Str × Addr)) (fp : List Addr), PassX X E0 (blkX X s H scope C cl fp) → PE (blkX X s H scope C cl fp) elt te) (hs : ∀ x, foldedSetIterable iter X.env x = pure x)
    (h : tLc wi g tt te (own.map (·.2)) σ H Q)
    (hRR : ∀ D (ce : PySem.Env) s' m H', Inv X pins σ H' s' → Q (.ref D) H' → s'.heap.Ns ce.locals m → FpOk X pins H' ce.locals → compEnds (model X.prog X.w) X.A X.xe use Qf (.ref D) ce (.ok .next) s') :
    wpAny (model X.prog X.w) X.A (comprehension (.ListComp elt [⟨tg, iter, ifs, 0⟩] scope pos) scope X.env pos' (newList []) false (eval iter X.env) use) Qf X.xe s := by
  have hfree : ∀ y ∈ scope.names, y.2 = .free → ∃ c, X.env.cells.lookup y.1 = some c := fun y hy e => by
    rcases ok.free y hy e with k | k
    · exact I.ok.has _ (.inl k)
    · exact I.ok.has _ (.inr k)
  refine comprehension_at (use := use) rfl hs (closure_ok hfree) ok.kind (fun y hy e => by rw [ok.uniq y hy, e])
    (thn (hi.run pins s σ H _ I h) fun xv s1 hx => thn hx fun itv s2 h2 => ?_)
  obtain ⟨it, fp, tn, J, H2, e, I2, T, st2, f2, q⟩ := h2
  subst e
  refine wpAny_newObj_type (newEnv_comp ?_) (by show 0 ≤ sizeLine; decide)
  generalize hD : s2.heap.objs.size = D
  have hDn : H2 D = none := I2.hok.fresh (Nat.le_of_eq hD)
  obtain ⟨W, ⟨m0, w0⟩, turn⟩ := q D hDn
  -- the new list
  generalize hs3 : ({ s2 with heap := s2.heap.push { cls := .type "list", data := .seq ([] : List Value).toArray } } : Shared) = s3
  have I3 : Inv X pins σ (upd H2 D (.lst [])) s3 := by
    rw [← hs3]
    refine I2.laid (t' := s2.toks) (fun b o e => Heap.get?_push_of_some _ e) (Nat.le_of_eq hD) ⟨Nat.zero_le _, [], 0, .nil, ?_⟩
    rw [← hD]
    exact Heap.get?_push_size _ rfl
  have h3 : s3.heap = s2.heap.push { cls := .type "list", data := .seq ([] : List Value).toArray } := by rw [← hs3]
  have sz : ∀ b ∈ fp, b < s2.heap.objs.size := fun b hb => by
    obtain ⟨o, e, _⟩ := T.obj _ _ st2 b hb
    exact Heap.lt_size e
  have f3 : ∀ b ∈ fp, FpOk X pins (upd H2 D (.lst [])) b ∧ b < s3.heap.objs.size := fun b hb => by
    have hlt := sz b hb
    refine ⟨⟨?_, (f2 b hb).2⟩, by rw [h3, Heap.size_push]; exact Nat.lt_succ_of_lt hlt⟩
    rw [upd_ne (by rw [← hD]; exact Nat.ne_of_lt hlt)]
    exact (f2 b hb).1
  have st3 : tn 0 s3.heap := T.keep _ _ _ st2 fun b _ o e => by rw [h3]; exact Heap.get?_push_of_some _ e
  have I4 := block_start I3 ok hN f3
  generalize hcl : cellsFrom (s3.heap.objs.size + 1) scope.names (cloFrom X.env.cells scope.names []) = cl at I4 ⊢
  have px : PassX X E0 (blkX X s3 (upd H2 D (.lst [])) scope s3.heap.objs.size cl fp) := fun pb σb Hb sb e s' Ib cx => blk_raise dx I3 f3 Ib cx
  have pg := hg s3 (upd H2 D (.lst [])) s3.heap.objs.size cl fp px
  have pt := ht s3 (upd H2 D (.lst [])) s3.heap.objs.size cl fp px
  have pe := he s3 (upd H2 D (.lst [])) s3.heap.objs.size cl fp px
  show codeAny _ _ (.compStart (.ListComp elt [⟨tg, iter, ifs, 0⟩] scope pos) 0 (.ref it) (.ref D) (compEnvC scope cl s3.heap.objs.size X.env)) (compEnds (model X.prog X.w) X.A X.xe use Qf (.ref D) (compEnvC scope cl s3.heap.objs.size X.env)) { s3 with heap := pushCells (s3.heap.push { cls := .type "dict", data := .dict #[] }) scope.names }
  have nfp : ∀ b ∈ fp, (upd H2 D (.lst [])) b = none := fun b hb => (f3 b hb).1.1
  unfold blkX at pg pt pe
  generalize hce : compEnvC scope cl s3.heap.objs.size X.env = ce at I4 pg pt pe ⊢
  have cL : ce.locals = s3.heap.objs.size := by subst hce; rfl
  generalize hH3 : upd H2 D (.lst []) = H3 at I3 I4 pg pt pe w0 nfp f3
  generalize hs4 : ({ s3 with heap := pushCells (s3.heap.push { cls := .type "dict", data := .dict #[] }) scope.names } : Shared) = s4 at I4 ⊢
  have st4 : tn 0 s4.heap := T.keep _ _ _ st3 fun b _ o e => by rw [← hs4]; exact pushCells_keeps _ _ _ _ (Heap.get?_push_of_some _ e)
  have I4 : Inv ((X.blk s3 H3 scope ce fp).wish (blkE X ce)) [] (wipe σ (own.map (·.2))) H3 s4 := I4.wish _
  have stat : ∀ {σ' : L2.St} {H' : Hp} {s' : Shared}, Inv ((X.blk s3 H3 scope ce fp).wish (blkE X ce)) [] σ' H' s' → (∀ b ∈ fp, H' b = none) → ∀ b ∈ fp, FpOk ((X.blk s3 H3 scope ce fp).wish (blkE X ce)) [] H' b := fun {σ' H' s'} I' hn b hb =>
    ⟨hn b hb, (I'.ok.exf b hb).1, I'.ok.exfs b hb, .inl hb, fun x c e => (I'.ok.exf b hb).2 x c e, fun p hp => absurd (show p ∈ ([] : List (Addr × Obj)) ++ [] from hp) (by simp)⟩
  have loop : codeAny (model X.prog X.w) X.A (.compLoop (.ListComp elt [⟨tg, iter, ifs, 0⟩] scope pos) 0 (.ref it) (.ref D) ce) (compEnds (model X.prog X.w) X.A X.xe use Qf (.ref D) ce) s4 := by
    have hE : (notedBy (model X.prog X.w) X.A ce fun e s' => compEnds (model X.prog X.w) X.A X.xe use Qf (.ref D) ce (.error e) s') = blkE X ce := by
      cases use <;> rfl
    refine compLoop_any (fun n s' => ∃ i H', Inv ((X.blk s3 H3 scope ce fp).wish (blkE X ce)) [] (wipe σ (own.map (·.2))) H' s' ∧ tn i s'.heap ∧ (∀ b ∈ fp, H' b = none) ∧ W i n H') ?_ m0 ⟨0, H3, I4, st4, nfp, w0⟩
    rw [hE]
    rintro n s5 ⟨i, H5, I5, st5, n5, w5⟩
    rcases turn i n H5 w5 with ⟨stop, qq⟩ | ⟨go, Nx, hNx, step⟩
    · have td := T.done ((X.blk s3 H3 scope ce fp).wish (blkE X ce)) rfl rfl rfl hc i [] s5 _ H5 (fun _ _ => False) I5 (stat I5 n5) st5 stop
      refine thnF td fun r s6 ⟨hr, I6⟩ => ?_
      subst hr
      -- back in the def's context
      have I7 : Inv X pins σ H5 s6 := I3.call' (ch := fp) I6.os I6.base I6.hok I6.bare fun b hb => ⟨(f3 b hb).1.2.2.2.1, (f3 b hb).1.2.1, (f3 b hb).1.2.2.2.2.1, (f3 b hb).1.2.2.2.2.2⟩
      have nC : H5 ce.locals = none := I6.free
      obtain ⟨m, hn, _⟩ := I6.loc
      have hn : s6.heap.Ns ce.locals m := hn
      exact hRR D ce s6 m H5 I7 qq hn (I3.fpOk (Nat.le_of_eq cL.symm) nC)
    · have ti := T.item ((X.blk s3 H3 scope ce fp).wish (blkE X ce)) rfl rfl rfl hc i [] s5 _ H5 (fun _ _ => False) I5 (stat I5 n5) st5 go
      refine thnF ti fun r s6 ⟨u, hr, h6⟩ => ?_
      subst hr
      refine thnF h6 fun _ s7 ⟨x, H7, I7, r7, y7, st7, n7⟩ => ?_
      have I7' := I7.pinned (stat I7 n7) (T.obj _ _ st7)
      refine thn (pg.run _ s7 _ H7 x u _ I7' r7 (step x H7 y7)) fun _ s8 ⟨σ8, H8, I8, hw8, q8⟩ => ?_
      refine thn (pt.run _ s8 σ8 H8 _ I8 q8) fun b s9 ⟨H9, I9, q9⟩ => ?_
      -- the turn's end
      have fin : ∀ {s' : Shared} {H' : Hp}, Inv ((X.blk s3 H3 scope ce fp).wish (blkE X ce)) ([] ++ pinsAt fp s7.heap) σ8 H' s' → Nx H' → ∃ m, m < n ∧ ∃ i H', Inv ((X.blk s3 H3 scope ce fp).wish (blkE X ce)) [] (wipe σ (own.map (·.2))) H' s' ∧ tn i s'.heap ∧ (∀ b ∈ fp, H' b = none) ∧ W i m H' := fun {s' H'} I' nx => by
        obtain ⟨m', hm, w'⟩ := hNx H' nx
        have pin' : ∀ b ∈ fp, ∀ o, s7.heap.get? b = some o → s'.heap.get? b = some o ∧ H' b = none := fun b hb o e =>
          let z := I'.pin (b, o) (List.mem_append_right _ (List.mem_append_right _ (mem_pinsAt hb e)))
          ⟨z.1, z.2.1⟩
        have hl : (wipe σ (own.map (·.2))).length = σ8.length := by rw [← hw8, wipe_length]
        refine ⟨m', hm, i + 1, H', (I'.unpinned (pins := [])).weak hl (fun j v e => ?_), T.keep _ _ _ st7 fun b hb o e => (pin' b hb o e).1, fun b hb => ?_, w'⟩
        · rw [← hw8] at e
          exact (wipe_some e).1
        · obtain ⟨o, e, _⟩ := T.obj _ _ st7 b hb
          exact (pin' b hb o e).2
      cases b with
      | false =>
        simp only [Bool.false_eq_true, if_false] at q9 ⊢
        exact fin I9 q9
      | true =>
        simp only [if_true] at q9 ⊢
        refine thn (pe.run _ s9 σ8 H9 _ I9 q9) fun z s10 ⟨yv, H10, I10, r10, acc, hD10, hz10, nx⟩ => ?_
        exact app_ok (X := (X.blk s3 H3 scope ce fp).wish (blkE X ce)) I10 hD10 hz10 r10 fun s11 I11 => fin I11 nx
  exact codeAny_compStart_list loop (T.self X.A 0 _ _ _ st4 loop)
/-- as a value -/
theorem pe_lcX {elt tg iter : Expr} {ifs : List Expr} {scope : Scope} {own : List (Str × Nat)} {pos : Pos} {wi : TI} {g : TG} {tt : TT} {te : TE} (dx : Df' X E0) (hc : X.calm = true) (hN : X.N.Nodup) (hi : PI X tg iter wi) (ok : BlkOk X.N X.env.scope scope own)
    (hg : ∀ (s : Shared) (H : Hp) (C : Addr) (cl : List (Str × Addr)) (fp : List Addr), PassX X E0 (blkX X s H scope C cl fp) → PG (blkX X s H scope C cl fp) tg g) (ht : ∀ (s : Shared) (H : Hp) (C : Addr) (cl : List (Str × Addr)) (fp : List Addr), PassX X E0 (blkX X s H scope C cl fp) → PTs (blkX X s H scope C cl fp) ifs tt)
    (he : ∀ (s : Shared) (H : Hp) (C : Addr) (cl : List (Str × Addr)) (fp : List Addr), PassX X E0 (blkX X s H scope C cl fp) → PE (blkX X s H scope C cl fp) elt te) (hs : ∀ x, foldedSetIterable iter X.env x = pure x) :
    PE X (.ListComp elt [⟨tg, iter, ifs, 0⟩] scope pos) (tLc wi g tt te (own.map (·.2))) := by
  refine ⟨fun pins s σ H Q I h => ?_⟩
  rw [eval_ListComp]
  refine lc_coreX dx hc hN I hi ok hg ht he hs h fun D ce s' m H' I' q hn f => ⟨m, hn, fun h'' sb => ?_⟩
  obtain ⟨f0, f1, f2, f3, f4, f5⟩ := f
  exact ⟨.ref D, H', I'.turned (t' := s'.toks) (fun b o hb e => (sb.2 b hb).trans e) f0 f1 f3 f4 f5, rfl, q⟩
/-- name = [..] on one line, the name a local -/
theorem ps_setLcX {i : Nat} {y : Str} {py : Pos} {elt tg iter : Expr} {ifs : List Expr} {scope : Scope} {own : List (Str × Nat)} {pos spos : Pos} {wi : TI} {g : TG} {tt : TT} {te : TE} (dx : Df' X E0) (hc : X.calm = true) (hN : X.N.Nodup) (hy : X.N[i]? = some y) (hyl : X.env.scope.names.lookup y = some .local)
    (hsw : swapsWith (.ListComp elt [⟨tg, iter, ifs, 0⟩] scope pos) (some (.Name y py)) spos.line X.env = pure true) (hi : PI X tg iter wi) (ok : BlkOk X.N X.env.scope scope own)
    (hg : ∀ (s : Shared) (H : Hp) (C : Addr) (cl : List (Str × Addr)) (fp : List Addr), PassX X E0 (blkX X s H scope C cl fp) → PG (blkX X s H scope C cl fp) tg g) (ht : ∀ (s : Shared) (H : Hp) (C : Addr) (cl : List (Str × Addr)) (fp : List Addr), PassX X E0 (blkX X s H scope C cl fp) → PTs (blkX X s H scope C cl fp) ifs tt)
    (he : ∀ (s : Shared) (H : Hp) (C : Addr) (cl : List (Str × Addr)) (fp : List Addr), PassX X E0 (blkX X s H scope C cl fp) → PE (blkX X s H scope C cl fp) elt te) (hs : ∀ x, foldedSetIterable iter X.env x = pure x) :
    PS X (.Assign [.Name y py] (.ListComp elt [⟨tg, iter, ifs, 0⟩] scope pos) spos) (tAsg (tLc wi g tt te (own.map (·.2))) (gName i)) := by
  refine ⟨fun pins s σ H D I h => ?_⟩
  rw [exec_Assign_Name_used _ _ _ _ hsw]
  refine wpAny_bind (wpAny_standAt (wpAny_bind ?_))
  show wpAny _ X.A (do let _ ← comprehension (.ListComp elt [⟨tg, iter, ifs, 0⟩] scope pos) scope X.env (firstIterPos [⟨tg, iter, ifs, 0⟩] pos) (newList []) false (eval iter X.env) (some (assign (.Name y py) X.env))) _ _ s
  have h : tLc wi g tt te (own.map (·.2)) σ H (fun x H1 => gName i x σ H1 D.nx) := h
  refine wpAny_bind (thn (lc_coreX (Qf := fun _ s' => SP X pins D .next s') dx hc hN I hi ok hg ht he hs h fun L ce s' m H' I' q hn f => ?_) fun _ s' hq => wpAny_pure (wpAny_pure hq))
  show wpAny _ _ (assign (.Name y py) X.env (.ref L)) _ _ _
  refine wpAny_assign_Name (store_ok2 (v := V.ref L) I' hN hy (.inl hyl) rfl (fun s2 I2 ⟨a, sb, ha⟩ => ?_) (.inr hyl))
  obtain ⟨f0, f1, f2, f3, f4, f5⟩ := f
  have haC : ce.locals ≠ a := by
    rcases ha with z | z
    · rw [z]; exact f1
    · exact fun e => f4 y a z e.symm
  refine ⟨m, hn.sameBut sb haC, fun h3 sb3 => ?_⟩
  exact ⟨_, H', I2.turned (t' := s2.toks) (fun b o hb e => (sb3.2 b hb).trans e) f0 f1 f3 f4 f5, q⟩
end
end Nk
end
section
set_option Elab.async false
set_option linter.all false
set_option maxRecDepth 100000
set_option maxHeartbeats 400000
/-! targets, comprehensions -/
namespace Nk
open PySem PySem.Spec PyProof.Rows L2
/-! ### the monad's laws -/
theorem bnd_assoc {α β γ : Type} (m : Nk.M α) (f : α → Nk.M β) (g : β → Nk.M γ) : bnd (bnd m f) g = bnd m fun a => bnd (f a) g := by
  funext s; unfold Nk.bnd; cases m s <;> rfl
theorem ret_bnd {α β : Type} (a : α) (f : α → Nk.M β) : bnd (ret a) f = f a := by
  funext s; rfl
theorem stk_bnd {α β : Type} (f : α → Nk.M β) : bnd stk f = stk := by
  funext s; rfl
/-! ### heaps -/
section
variable {a0 : Addr} {M0 M M' : Addr → Prop} {H H' : Hp} {T : TL} {st : Sr}
theorem EnvR0.later {own : Nat → Bool} {σ : L2.St} {ρ : Env} (hs : Hs a0 M T H st) (x : Ext a0 H H') (l : Later M H M' H') (e : EnvR0 a0 M0 M own H σ ρ) : EnvR0 a0 M0 M' own H' σ ρ := by
  refine ⟨e.m00, e.len, fun i d hd => ?_, e.apart⟩
  obtain ⟨v, h1, h2⟩ := e.slot i d hd
  refine ⟨v, h1, ?_⟩
  cases ho : own i with
  | false => rw [ho] at h2; exact l.rep h2 hs.noTup
  | true =>
    rw [ho] at h2
    obtain ⟨a, xs, ds, e1, e2, m, n, e3, k, r⟩ := h2
    exact ⟨a, xs, ds, e1, e2, l.sub a m, n, x a _ e3 (fun z => n (z ▸ e.m00)) (fun ps z => by cases z), k, l.reps r hs.noTup⟩
theorem Hs.weak (hs : Hs a0 M' T H st) (h0 : M a0) (sub : ∀ b, M b → M' b) : Hs a0 M T H st := ⟨hs.src, h0, fun b hb => hs.md b (sub b hb), hs.tabs⟩
theorem tabs_put {D : Addr} {xs ys : List V} (t : LamX.Tabs T H) (e : H D = some (.lst xs)) : LamX.Tabs T (upd H D (.lst ys)) := fun p hp => by
  obtain ⟨ps, h1, h2, h3⟩ := t p hp
  refine ⟨ps, ?_, h2, fun pos cv hc => ?_⟩
  · rw [upd_ne (fun z => by rw [z, e] at h1; cases h1)]; exact h1
  · obtain ⟨c, e1, e2⟩ := h3 pos cv hc
    refine ⟨c, e1, ?_⟩
    rw [upd_ne (fun z => by rw [z, e] at e2; cases e2)]; exact e2
theorem Hs.put {D : Addr} {xs ys : List V} (hs : Hs a0 M T H st) (hm : M D) (h0 : D ≠ a0) (e : H D = some (.lst xs)) : Hs a0 M T (upd H D (.lst ys)) st := by
  refine ⟨?_, hs.m0, fun b hb => ?_, tabs_put hs.tabs e⟩
  · rw [upd_ne (Ne.symm h0)]; exact hs.src
  · by_cases z : b = D
    · exact ⟨ys, by rw [z, upd_same]⟩
    · obtain ⟨zs, q⟩ := hs.md b hb
      exact ⟨zs, by rw [upd_ne z]; exact q⟩
theorem Later.put {D : Addr} {ys : List V} (hm : M D) : Later M H M (upd H D (.lst ys)) := ⟨fun _ h => h, fun _ _ h n => absurd h n, fun b o e n t => by rw [upd_ne (fun z => n (by rw [z]; exact hm))]; exact e⟩
theorem Later.of_ext (hm : ∀ b, M b → M' b) (h0 : M a0) (hn : ∀ b o, M' b → ¬ M b → H b = some o → ∃ ps, o = .tbl ps) (x : Ext a0 H H') : Later M H M' H' := ⟨hm, hn, fun b o e n t => x b o e (fun z => n (z ▸ h0)) t⟩
end

/-! ### targets -/
def Tg.ixs : Tg → List Nat
  | .nm i => [i]
  | .tup is => is
/-- behind a store of slots is -/
def Stored (own : Nat → Bool) (is : List Nat) (a0 : Addr) (M0 M : Addr → Prop) (H : Hp) (σ : L2.St) (ρ' : Env) (Q : L2.St → Hp → Prop) : Prop :=
  (∀ i ∈ is, own i = false) ∧ ∀ σ', EnvR0 a0 M0 M own H σ' ρ' → (∀ j, j ∉ is → σ'[j]? = σ[j]?) → σ'.length = σ.length → Q σ' H
def tTgs (own : Nat → Bool) (is : List Nat) : TGs := fun vs σ H Q => ∃ a0 M0 M ds ρ ρ', Reps a0 M H vs ds ∧ EnvR0 a0 M0 M own H σ ρ ∧ setAll is ds ρ = some ρ' ∧ Stored own is a0 M0 M H σ ρ' Q
def tTg (own : Nat → Bool) (t : Tg) : TG := fun v σ H Q => ∃ a0 M0 M d ρ ρ', Rep a0 M H v d ∧ EnvR0 a0 M0 M own H σ ρ ∧ asgTg t d ρ = some ρ' ∧ Stored own t.ixs a0 M0 M H σ ρ' Q
theorem PG.imp {X : Cx} {e : Expr} {t t' : TG} (h : PG X e t) (i : ∀ v σ H Q, t' v σ H Q → t v σ H Q) : PG X e t' := ⟨fun pins s σ H v u Q I r q => h.run pins s σ H v u Q I r (i v σ H Q q)⟩
theorem PGs.imp {X : Cx} {e : List Expr} {t t' : TGs} (h : PGs X e t) (i : ∀ v σ H Q, t' v σ H Q → t v σ H Q) : PGs X e t' := ⟨fun pins s σ H v u Q I r q => h.run pins s σ H v u Q I r (i v σ H Q q)⟩
section
variable {G : Gx} {X : Cx} {k : Nat} {T : TL} {c : Cl} {cal : Nat → List D → Nk.M D} {E0 : XK} {own : Nat → Bool}
theorem tgOf_of {S : Sx} (f : Fit X S own E0) {x : Str} {i : Nat} (h : tgOf S x = some i) : X.N[i]? = some x ∧ Loc X.env.scope x ∧ (X.fn x = true ∨ X.env.scope.names.lookup x = some .local) := by
  unfold tgOf at h
  rw [f.N, f.sc] at h
  split at h
  · rename_i h2; exact ⟨findIx_get h, .inl h2, .inr h2⟩
  · rename_i h2
    split at h
    · rename_i h3; exact ⟨findIx_get h, .inr h2, .inl (f.cell x h3)⟩
    · cases h
  · cases h
/-- one name -/
theorem L_tgName (hN : X.N.Nodup) {S : Sx} (f : Fit X S own E0) {x : Str} {i : Nat} {pos : Pos} (h : tgOf S x = some i) (ho : S.own.contains x = false) : PG X (.Name x pos) (tTg own (.nm i)) := by
  obtain ⟨h1, h2, h3⟩ := tgOf_of f h
  have hoi : own i = false := by rw [f.own i x h1]; exact ho
  refine PG.imp (pg_name hN h1 h2 h3) fun v σ H Q ⟨a0, M0, M, d, ρ, ρ', r, e, ha, _, q⟩ => ?_
  have ha : (if i < ρ.length then some (ρ.set i (some d)) else none) = some ρ' := ha
  split at ha
  · rename_i hi
    cases ha
    exact q _ (e.set hoi r hi) (fun j hj => by rw [List.getElem?_set_ne (fun z => hj (by simp [Tg.ixs, z]))]) (List.length_set ..)
  · cases ha
theorem tgs_cons {S : Sx} {e : Expr} {ts : List Expr} {is : List Nat} (h : tgsOf S (e :: ts) = some is) : ∃ x p i js, e = .Name x p ∧ S.own.contains x = false ∧ tgOf S x = some i ∧ tgsOf S ts = some js ∧ is = i :: js := by
  cases e with
  | Name x p =>
    unfold tgsOf at h
    split at h
    · rename_i i js h1 h2 h3
      exact ⟨x, p, i, js, rfl, h1, h2, h3, (Option.some.inj h).symm⟩
    · cases h
  | _ => exact absurd h (by simp [tgsOf])
theorem each_names {S : Sx} (env : PySem.Env) : ∀ {ts : List Expr} {is : List Nat}, tgsOf S ts = some is → (assignEach ts env).length = is.length ∧ (assignEach ts env).findIdx? (·.1) = none
  | [], is, h => by cases h; exact ⟨rfl, rfl⟩
  | e :: ts, is, h => by
    obtain ⟨x, p, i, js, rfl, _, _, h3, rfl⟩ := tgs_cons h
    obtain ⟨e1, e2⟩ := each_names env h3
    refine ⟨?_, ?_⟩
    · show (assignEach ts env).length + 1 = _
      rw [e1]; rfl
    · show List.findIdx? _ ((false, assign (.Name x p) env) :: assignEach ts env) = none
      rw [List.findIdx?_cons, e2]; rfl
theorem nm_mem {i j : Nat} (h : j ∈ (Tg.nm i).ixs) : j = i := by simpa [Tg.ixs] using h
theorem L_tgs (hN : X.N.Nodup) {S : Sx} (f : Fit X S own E0) : ∀ {ts : List Expr} {is : List Nat}, tgsOf S ts = some is → PGs X ts (tTgs own is)
  | [], is, h => by
    cases h
    refine PGs.imp pgs_nil fun vs σ H Q ⟨a0, M0, M, ds, ρ, ρ', r, e, ha, _, q⟩ => ?_
    cases ds with
    | nil =>
      cases r
      have ha : some ρ = some ρ' := ha
      cases ha
      exact ⟨rfl, q σ e (fun _ _ => rfl) rfl⟩
    | cons d ds => cases ha
  | e :: ts, is, h => by
    obtain ⟨x, p, i, js, rfl, h1, h2, h3, rfl⟩ := tgs_cons h
    refine PGs.imp (pgs_cons (L_tgName hN f h2 h1) (L_tgs hN f h3) rfl) fun vs σ H Q ⟨a0, M0, M, ds, ρ, ρ', r, e, ha, ho, q⟩ => ?_
    cases ds with
    | nil => cases ha
    | cons d ds =>
      cases r with
      | cons r rr =>
        have ha : (if i < ρ.length then setAll js ds (ρ.set i (some d)) else none) = some ρ' := ha
        split at ha
        · rename_i hi
          refine ⟨_, _, rfl, a0, M0, M, d, ρ, ρ.set i (some d), r, e, ?_, fun j hj => ?_, fun σ1 e1 k1 l1 => ?_⟩
          · show (if i < ρ.length then some (ρ.set i (some d)) else none) = _
            rw [if_pos hi]
          · rw [nm_mem hj]; exact ho i List.mem_cons_self
          · refine ⟨a0, M0, M, ds, _, ρ', rr, e1, ha, fun j hj => ho j (List.mem_cons_of_mem _ hj), fun σ2 e2 k2 l2 => q σ2 e2 (fun j hj => ?_) (l2.trans l1)⟩
            rw [k2 j (fun z => hj (List.mem_cons_of_mem _ z)), k1 j (fun z => hj (by rw [nm_mem z]; exact List.mem_cons_self))]
        · cases ha
theorem setAll_len : ∀ {is : List Nat} {ds : List D} {ρ ρ' : Env}, setAll is ds ρ = some ρ' → ds.length = is.length
  | [], [], _, _, _ => rfl
  | [], _ :: _, _, _, h => by cases h
  | _ :: _, [], _, _, h => by cases h
  | i :: is, d :: ds, ρ, ρ', h => by
    have h : (if i < ρ.length then setAll is ds (ρ.set i (some d)) else none) = some ρ' := h
    split at h
    · show ds.length + 1 = is.length + 1
      rw [setAll_len h]
    · cases h
/-- any target -/
theorem L_tg (hc : X.calm = true) (hN : X.N.Nodup) {S : Sx} (f : Fit X S own E0) {tg : Expr} {t : Tg} (h : cTg S tg = some t) : PG X tg (tTg own t) := by
  unfold cTg at h
  split at h
  · split at h
    · rename_i i h1 h2
      cases h
      exact L_tgName hN f h2 h1
    · cases h
  · rename_i ts kk p
    obtain ⟨is, h1, rfl⟩ := Option.map_eq_some_iff.mp h
    obtain ⟨e1, e2⟩ := each_names X.env h1
    have gs := L_tgs hN f h1
    refine ⟨fun pins s σ H v u Q I r hw => ?_⟩
    obtain ⟨a0, M0, M, d, ρ, ρ', rd, e, ha, ho, q⟩ := hw
    cases d with
    | tup ds =>
      cases rd with
      | tup e3 l rs =>
        have ha : setAll is ds ρ = some ρ' := ha
        exact (pg_tup hc gs e1 e2).run pins s σ H _ u Q I r ⟨_, _, rfl, SqT.of e3, by rw [rs.length, setAll_len ha], a0, M0, M, ds, ρ, ρ', rs, e, ha, ho, q⟩
    | lst ds =>
      cases rd with
      | lst e3 n l rs =>
        have ha : setAll is ds ρ = some ρ' := ha
        exact (pg_unl hc gs e1 e2).run pins s σ H _ u Q I r ⟨_, _, rfl, SqL.of e3, by rw [rs.length, setAll_len ha], a0, M0, M, ds, ρ, ρ', rs, e, ha, ho, q⟩
    | _ => cases ha
  · cases h

/-! ### comprehensions -/
theorem Gd.blk (g : Gd G X k T c cal E0) {s : Shared} {H : Hp} {scope : Scope} {C : Addr} {cl : List (Str × Addr)} {fp : List Addr} (px : PassX X E0 (blkX X s H scope C cl fp)) : Gd G (blkX X s H scope C cl fp) k T c cal E0 :=
  ⟨g.calm, g.nd, g.room, px, g.fns, g.consts, g.free, g.tags⟩
theorem Fit.blk {S : Sx} (f : Fit X S own E0) {s : Shared} {H : Hp} {scope : Scope} {C : Addr} {cl : List (Str × Addr)} {fp : List Addr} : Fit (blkX X s H scope C cl fp) (inner S scope) own E0 :=
  ⟨f.N, by show relS scope S.sc = relabel scope X.env; rw [f.sc]; rfl, f.own, fun _ h => h, fun h => by cases h⟩
/-- the slots of a comprehension's target are its own -/
theorem ownOf_mem {N : List Str} {y : Str} {i : Nat} : ∀ {names : List (Str × NameKind)} {kk : NameKind}, names.lookup y = some kk → kk = .local ∨ kk = .cell → findIx N y = some i → i ∈ (ownOf N names).map (·.2)
  | [], _, h, _, _ => by cases h
  | (z, k0) :: r, kk, h, hk, hi => by
    cases hz : y == z with
    | true =>
      rw [List.lookup_cons, hz] at h
      cases h
      have : y = z := by simpa using hz
      subst this
      unfold ownOf
      rcases hk with rfl | rfl <;> simp [hi]
    | false =>
      rw [List.lookup_cons, hz] at h
      have ih := ownOf_mem h hk hi
      unfold ownOf
      split
      · exact List.mem_cons_of_mem _ ih
      · exact List.mem_cons_of_mem _ ih
      · exact ih
theorem tg_own {S : Sx} {scope : Scope} {x : Str} {i : Nat} (h : tgOf (inner S scope) x = some i) : i ∈ (ownOf S.N scope.names).map (·.2) := by
  unfold tgOf at h
  have hh : ∀ k, (inner S scope).sc.names.lookup x = some k → ∃ k', scope.names.lookup x = some k' ∧ (k = k' ∨ (k' = .free ∧ k = .cell)) := fun k e => lookup_relS (sc := S.sc) e
  split at h
  · rename_i e
    obtain ⟨k', e1, e2⟩ := hh _ e
    rcases e2 with rfl | ⟨_, z⟩
    · exact ownOf_mem e1 (.inl rfl) h
    · cases z
  · rename_i e
    split at h
    · rename_i e3
      have e3 : (scope.names.lookup x == some .cell) = true := e3
      have e4 : scope.names.lookup x = some .cell := by simpa using e3
      exact ownOf_mem e4 (.inr rfl) h
    · cases h
  · cases h
theorem tgs_own {S : Sx} {scope : Scope} : ∀ {ts : List Expr} {is : List Nat}, tgsOf (inner S scope) ts = some is → ∀ i ∈ is, i ∈ (ownOf S.N scope.names).map (·.2)
  | [], is, h, i, hi => by cases h; cases hi
  | e :: ts, is, h, i, hi => by
    obtain ⟨x, p, j, js, rfl, h1, h2, h3, rfl⟩ := tgs_cons h
    rcases List.mem_cons.mp hi with rfl | hi
    · exact tg_own h2
    · exact tgs_own h3 i hi
theorem cTg_own {S : Sx} {scope : Scope} {tg : Expr} {t : Tg} (h : cTg (inner S scope) tg = some t) : ∀ i ∈ t.ixs, i ∈ (ownOf S.N scope.names).map (·.2) := by
  unfold cTg at h
  split at h
  · split at h
    · rename_i h2
      cases h
      intro i hi
      rw [nm_mem hi]
      exact tg_own h2
    · cases h
  · obtain ⟨is, h1, rfl⟩ := Option.map_eq_some_iff.mp h
    exact tgs_own h1
  · cases h
end
theorem wipe_none {σ : L2.St} {i : Nat} : ∀ {vs : List Nat}, i ∈ vs → (wipe σ vs)[i]? = if i < σ.length then some none else none
  | [], h => by cases h
  | v :: vs, h => by
    show ((wipe σ vs).set v none)[i]? = _
    by_cases e : v = i
    · subst e
      by_cases hl : v < (wipe σ vs).length
      · rw [List.getElem?_set_self hl, if_pos (by rw [wipe_length] at hl; exact hl)]
      · rw [List.getElem?_eq_none (by simpa using hl), if_neg (by rw [wipe_length] at hl; exact hl)]
    · rw [List.getElem?_set_ne e]
      rcases List.mem_cons.mp h with rfl | h
      · exact absurd rfl e
      · exact wipe_none h
theorem wipe_else {σ : L2.St} {i : Nat} : ∀ {vs : List Nat}, i ∉ vs → (wipe σ vs)[i]? = σ[i]?
  | [], _ => rfl
  | v :: vs, h => by
    show ((wipe σ vs).set v none)[i]? = _
    rw [List.getElem?_set_ne (fun e => h (by rw [e]; exact List.mem_cons_self))]
    exact wipe_else fun z => h (List.mem_cons_of_mem _ z)
theorem wipe_eq {σ σ2 : L2.St} {vs : List Nat} (hl : σ2.length = σ.length) (h : ∀ j, j ∉ vs → σ2[j]? = (wipe σ vs)[j]?) : wipe σ2 vs = wipe σ vs := by
  refine List.ext_getElem? fun i => ?_
  by_cases hi : i ∈ vs
  · rw [wipe_none hi, wipe_none hi, hl]
  · rw [wipe_else hi, h i hi]
end Nk
end
section
set_option Elab.async false
set_option linter.all false
set_option maxRecDepth 100000
set_option maxHeartbeats 400000
/-! a comprehension's reading -/
namespace Nk
open PySem PySem.Spec PyProof.Rows L2
section
variable {T : TL} {c : Cl} {E0 : XK} {a0 : Addr} {M M' : Addr → Prop} {H H1 : Hp} {st : Sr} {α β : Type}
theorem Res.bndB {m : Nk.M α} {f : α → Nk.M β} {K : β → Hp → Sr → Prop} (h : Res T c E0 a0 M H1 (Nk.bnd m f st) K) (x : Ext a0 H1 H) : Res T c E0 a0 M H (m st) fun d _ st1 => Res T c E0 a0 M H1 (f d st1) K := by
  unfold Nk.bnd at h
  cases e : m st with
  | ok d s =>
    rw [e] at h
    exact fun H' x _ => h
  | err y s =>
    rw [e] at h
    exact Res.later (r := R.err y s) (K := fun (_ : α) (_ : Hp) (_ : Sr) => True) h x
  | stuck =>
    rw [e] at h
    exact h
theorem Res.more {r : R α} {K : α → Hp → Sr → Prop} (h : Res T c E0 a0 M H r K) (h0 : M a0) (sub : ∀ b, M b → M' b) : Res T c E0 a0 M' H r K := by
  cases r with
  | ok d s => exact fun H' e hs => h H' e (hs.weak h0 sub)
  | err y s => exact fun cls dx H' e hs q => h cls dx H' e (hs.weak h0 sub) q
  | stuck => exact h
theorem Ext.put {D : Addr} {o : HO} (x : Ext a0 H1 H) (hD : H1 D = none) : Ext a0 H1 (upd H D o) := fun b u e n t => by
  rw [upd_ne (ne_of_none e hD)]; exact x b u e n t
end
section
variable {G : Gx} {X : Cx} {k : Nat} {T : TL} {c : Cl} {cal : Nat → List D → Nk.M D} {E0 : XK} {own : Nat → Bool}
def tIf (T : TL) (c : Cl) (cal : Nat → List D → Nk.M D) (E0 : XK) (own : Nat → Bool) (irs : Es) : TT := fun σ H Q => ∃ a0 M st ρ, Hs a0 M T H st ∧ EnvR a0 M own H σ ρ ∧ Res T c E0 a0 M H (evIfs cal irs ρ st) fun b H' _ => Q b H'
theorem PTs.imp {e : List Expr} {t t' : TT} (h : PTs X e t) (i : ∀ σ H Q, t' σ H Q → t σ H Q) : PTs X e t' := ⟨fun pins s σ H Q I q => h.run pins s σ H Q I (i σ H Q q)⟩
theorem L_if0 : PTs X [] (tIf T c cal E0 own .nil) := PTs.imp pts_nil fun σ H Q ⟨a0, M, st, ρ, hs, he, r⟩ => (show Res T c E0 a0 M H (ret true st) _ from r).ret hs
theorem L_if1 {e : Expr} {ir : E} (h : PT X e (tT T c cal E0 own ir)) : PTs X [e] (tIf T c cal E0 own (.cons ir .nil)) := PTs.imp (pts_one h) fun σ H Q q => q
/-- the turn of a comprehension -/
def gC (cal : Nat → List D → Nk.M D) (elt : E) (tg : Tg) (ifs : Es) (ρw : Env) (x : D) : Nk.M (Option D) := bnd (ofO (asgTg tg x ρw)) fun ρ' => bnd (evIfs cal ifs ρ') fun b => match b with
  | true => bnd (evE cal elt ρ') fun y => ret (some y)
  | false => ret none
theorem loop_step (elt : E) (tg : Tg) (ifs : Es) (ρw : Env) (d : D) (rest das : List D) : bnd (lcLoop (gC cal elt tg ifs ρw) (d :: rest)) (fun ys => ret (D.lst (das ++ ys))) = bnd (ofO (asgTg tg d ρw)) fun ρ' => bnd (evIfs cal ifs ρ') fun b => match b with
    | true => bnd (evE cal elt ρ') fun y => bnd (lcLoop (gC cal elt tg ifs ρw) rest) fun ys => ret (D.lst ((das ++ [y]) ++ ys))
    | false => bnd (lcLoop (gC cal elt tg ifs ρw) rest) fun ys => ret (D.lst (das ++ ys)) := by
  show bnd (bnd (gC cal elt tg ifs ρw d) fun r => bnd (lcLoop (gC cal elt tg ifs ρw) rest) fun ys => ret (match r with | some y => y :: ys | none => ys)) _ = _
  rw [bnd_assoc]
  conv => lhs; arg 1; unfold gC
  rw [bnd_assoc]
  congr 1
  funext ρ'
  rw [bnd_assoc]
  congr 1
  funext b
  cases b with
  | true =>
    show bnd (bnd (evE cal elt ρ') fun y => ret (some y)) _ = _
    rw [bnd_assoc]
    congr 1
    funext y
    rw [ret_bnd, bnd_assoc]
    congr 1
    funext ys
    rw [ret_bnd, List.append_assoc]
    rfl
  | false =>
    show bnd (ret none) _ = _
    rw [ret_bnd, bnd_assoc]
    congr 1
theorem lc_read {elt : E} {t : Tg} {it : Nk.It} {ifs : Es} {vs : List Nat} (ht : ∀ i ∈ t.ixs, i ∈ vs) (ho : ∀ i ∈ t.ixs, own i = false) : ∀ σ H Q, tE T c cal E0 own (.comp elt t it ifs vs) σ H Q → tLc (tIt T c cal E0 own it) (tTg own t) (tIf T c cal E0 own ifs) (tE T c cal E0 own elt) vs σ H Q := by
  rintro σ H Q ⟨a0, M, st, ρ, hs, ⟨M0, he0⟩, r⟩
  have r : Res T c E0 a0 M H (bnd (evIt cal it ρ) (fun xs => bnd (lcLoop (gC cal elt t ifs (wipeE ρ vs)) xs) fun ys => ret (D.lst ys)) st) _ := r
  refine ⟨a0, M, st, ρ, hs, ⟨M0, he0⟩, r.bnd.mono fun ds H1 st1 x hs1 r1 J gJ D hD => ?_⟩
  have he1 : EnvR0 a0 M0 M own H1 σ ρ := he0.ext hs x
  obtain ⟨M', hM'⟩ : ∃ M' : Addr → Prop, M' = fun b => M b ∨ b = D := ⟨_, rfl⟩
  have sub : ∀ b, M b → M' b := fun b h => by rw [hM']; exact .inl h
  have mD : M' D := by rw [hM']; exact .inr rfl
  have nD : ¬ M D := hs1.fresh hD
  have D0 : D ≠ a0 := fun z => nD (z ▸ hs1.m0)
  have lt : ∀ {H2 : Hp}, Ext a0 H1 H2 → Later M H1 M' H2 := fun {H2} x2 => Later.of_ext sub hs1.m0 (fun b o hb n e => by
    rw [hM'] at hb
    rcases hb with hb | rfl
    · exact absurd hb n
    · rw [hD] at e; cases e) x2
  have l1 := gJ.1
  refine ⟨fun i m Hc => ∃ stc acc das, m = ds.length - i ∧ i ≤ ds.length ∧ Ext a0 H1 Hc ∧ Hs a0 M' T Hc stc ∧ Hc D = some (.lst acc) ∧ Reps a0 M' Hc acc das ∧ das.length ≤ i ∧
    Res T c E0 a0 M' H1 (bnd (lcLoop (gC cal elt t ifs (wipeE ρ vs)) (ds.drop i)) (fun ys => ret (Nk.D.lst (das ++ ys))) stc) (fun d H' _ => ∀ v, Rep a0 M H' v d → Q v H'), ⟨ds.length, st1, [], [], rfl, Nat.zero_le _, Ext.new hD, ?_, upd_same, .nil, Nat.le_refl _, r1.more hs1.m0 sub⟩, ?_⟩
  · have z := hs1.new (o := .lst []) hD
    refine ⟨z.src, sub _ z.m0, fun b hb => ?_, z.tabs⟩
    rw [hM'] at hb
    rcases hb with hb | rfl
    · exact z.md b hb
    · exact ⟨[], upd_same⟩
  · rintro i m Hc ⟨stc, acc, das, rfl, hi, xc, hsc, eD, ra, hl, rc⟩
    obtain ⟨g1, g2, g3⟩ := gJ.2 M' Hc stc (lt xc) hsc
    by_cases hlt : i < ds.length
    · refine .inr ⟨g1 i hlt, fun H' => ∃ stc acc das, i + 1 ≤ ds.length ∧ Ext a0 H1 H' ∧ Hs a0 M' T H' stc ∧ H' D = some (.lst acc) ∧ Reps a0 M' H' acc das ∧ das.length ≤ i + 1 ∧
        Res T c E0 a0 M' H1 (bnd (lcLoop (gC cal elt t ifs (wipeE ρ vs)) (ds.drop (i + 1))) (fun ys => ret (Nk.D.lst (das ++ ys))) stc) (fun d H' _ => ∀ v, Rep a0 M H' v d → Q v H'), fun H' ⟨stc, acc, das, q⟩ => ⟨ds.length - (i + 1), by omega, stc, acc, das, rfl, q⟩, fun xv H' y => ?_⟩
      obtain ⟨x2, _, hs2, r2⟩ := g3 i xv H' ds[i] (List.getElem?_eq_getElem hlt) y
      have xc2 := xc.trans x2
      have ed : ds.drop i = ds[i] :: ds.drop (i + 1) := List.drop_eq_getElem_cons hlt
      rw [ed, loop_step] at rc
      obtain ⟨ρ', ea, rc⟩ := (rc.bndB xc2).ofO hs2
      have rc := rc H' Ext.refl hs2
      refine ⟨a0, M0, M', ds[i], wipeE ρ vs, ρ', r2, (he1.later hs1 xc2 (lt xc2)).wipe vs, ea, ho, fun σ2 e2 k2 l2 => ⟨wipe_eq (by rw [l2, wipe_length]) fun j hj => k2 j fun z => hj (ht j z), ?_⟩⟩
      refine ⟨a0, M', stc, ρ', hs2, ⟨M0, e2⟩, (rc.bndB xc2).mono fun b H3 st3 x3 hs3 r3 => ?_⟩
      have x3' := xc2.trans x3
      have eD3 : H3 D = some (.lst acc) := x3 D _ (x2 D _ eD D0 fun ps z => by cases z) D0 fun ps z => by cases z
      have ra3 : Reps a0 M' H3 acc das := x3.reps hs2 (x2.reps hsc ra)
      cases b with
      | true =>
        refine iteT ⟨a0, M', st3, ρ', hs3, ⟨M0, e2.ext hs2 x3⟩, (Res.bndB r3 x3').mono fun d H4 st4 x4 hs4 r4 v hv => ?_⟩
        have x4' := x3'.trans x4
        have eD4 : H4 D = some (.lst acc) := x4 D _ eD3 D0 fun ps z => by cases z
        have ra4 : Reps a0 M' H4 acc das := x4.reps hs3 ra3
        have lp : Later M' H4 M' (upd H4 D (.lst (acc ++ [v]))) := Later.put mD
        refine ⟨acc, eD4, ?_, st4, acc ++ [v], das ++ [d], hlt, x4'.put hD, hs4.put mD D0 eD4, upd_same, lp.reps (ra4.append (.cons hv .nil)) hs4.noTup, by rw [List.length_append, List.length_singleton]; omega, r4⟩
        have := ra4.length
        exact Nat.lt_of_lt_of_le (by omega : acc.length < line) line_le
      | false => exact iteF ⟨st3, acc, das, hlt, x3', hs3, eD3, ra3, by omega, r3⟩
    · have hi' : i = ds.length := by omega
      subst hi'
      refine .inl ⟨g2, ?_⟩
      rw [List.drop_length] at rc
      have rc : Res T c E0 a0 M' H1 (ret (Nk.D.lst (das ++ [])) stc) _ := rc
      rw [List.append_nil] at rc
      exact (rc.later xc).ret hsc (.ref D) (.lst eD nD (by omega) (ra.mono (fun _ _ e _ => e) fun b xs e n m => n (sub b m)))
end
end Nk
end
section
set_option Elab.async false
set_option linter.all false
set_option maxRecDepth 100000
set_option maxHeartbeats 1000000
/-! all expressions -/
namespace Nk
open PySem PySem.Spec PyProof.Rows L2
section
variable {G : Gx} {k : Nat} {T : TL} {c : Cl} {cal : Nat → List D → Nk.M D} {own : Nat → Bool}
def noPars (params : Arguments) : Bool := params.posonlyargs.isEmpty && params.args.isEmpty && params.vararg.isNone && params.kwonlyargs.isEmpty && params.kw_defaults.isEmpty && params.kwarg.isNone && params.defaults.isEmpty
/-- what is told of the def of the answers -/
def AnsOk (G : Gx) (X : Cx) (S : Sx) (k : Nat) (T : TL) (c : Cl) (cal : Nat → List D → Nk.M D) (E0 : XK) (own : Nat → Bool) : Prop := ∀ (params : Arguments) (body : Expr) (scope : Scope) (lpos p pos : Pos) (b : E), LamX.lamSB S.sc scope = true → noPars params = true → isGl S "_law_answer" = true →
  (∀ (Y : Cx) (E1 : XK), Gd G Y k T c cal E1 → Fit Y (lamSx S scope) own E1 → PE Y body (tE T c cal E1 own b)) → PE X (.Call (.Name "_law_answer" p) [.Lambda params body scope lpos] [] pos) (tE T c cal E0 own (.ans b))
variable (G k T c cal own) in
structure Snd (n : Nat) : Prop where
  cE : ∀ {X : Cx} {S : Sx} {E0 : XK}, Gd G X k T c cal E0 → Fit X S own E0 → (S.lam = true → AnsOk G X S k T c cal E0 own) → ∀ {e : Expr} {ir : E}, cE G n S e = some ir → PE X e (tE T c cal E0 own ir) ∧ PT X e (tT T c cal E0 own ir)
  cEs : ∀ {X : Cx} {S : Sx} {E0 : XK}, Gd G X k T c cal E0 → Fit X S own E0 → (S.lam = true → AnsOk G X S k T c cal E0 own) → ∀ {es : List Expr} {irs : Es}, cEs G n S es = some irs → PA X es (tEs T c cal E0 own irs) ∧ (∀ e ∈ es, noStar e = true) ∧ irs.len = es.length
  cB : ∀ {X : Cx} {S : Sx} {E0 : XK}, Gd G X k T c cal E0 → Fit X S own E0 → (S.lam = true → AnsOk G X S k T c cal E0 own) → ∀ {op : BoolOp} {es : List Expr} {ir : E}, cB G n S op es = some ir → BB X op es (tE T c cal E0 own ir) (tT T c cal E0 own ir)
  cEo : ∀ {X : Cx} {S : Sx} {E0 : XK}, Gd G X k T c cal E0 → Fit X S own E0 → (S.lam = true → AnsOk G X S k T c cal E0 own) → ∀ {e : Option Expr} {ir : Eo}, cEo G n S e = some ir → PO X e (tEo T c cal E0 own ir)
  cIfs : ∀ {X : Cx} {S : Sx} {E0 : XK}, Gd G X k T c cal E0 → Fit X S own E0 → (S.lam = true → AnsOk G X S k T c cal E0 own) → ∀ {e : List Expr} {ir : Es}, cIfs G n S e = some ir → PTs X e (tIf T c cal E0 own ir)
  cIt : ∀ {X : Cx} {S : Sx} {E0 : XK}, Gd G X k T c cal E0 → Fit X S own E0 → (S.lam = true → AnsOk G X S k T c cal E0 own) → ∀ {S' : Sx} {tg e : Expr} {t : Tg} {ir : Nk.It}, cTg S' tg = some t → okTI t ir = true → cIt G n S e = some ir → PI X tg e (tIt T c cal E0 own ir) ∧ shapeOk e = true
  cC : ∀ {X : Cx} {S : Sx} {E0 : XK}, Gd G X k T c cal E0 → Fit X S own E0 → (S.lam = true → AnsOk G X S k T c cal E0 own) → ∀ {f : Str} {args : List Expr} {p pos : Pos} {ir : E}, isGl S f = true → cC G n S f args = some ir → PE X (.Call (.Name f p) args [] pos) (tE T c cal E0 own ir)
theorem tg_tup {S' : Sx} {tg : Expr} {is : List Nat} (h : cTg S' tg = some (.tup is)) : ∃ ts kk tp, tg = .Tuple ts kk tp := by
  unfold cTg at h
  split at h
  · split at h
    · cases h
    · cases h
  · exact ⟨_, _, _, rfl⟩
  · cases h
theorem okT_tup {S' : Sx} {tg : Expr} {t : Tg} {ir : Nk.It} (h : cTg S' tg = some t) (ho : okTI t ir = true) (hi : ∀ e, ir ≠ .seq e) (hr : ∀ e, ir ≠ .range e) : ∃ ts kk tp, tg = .Tuple ts kk tp := by
  cases t with
  | tup is => exact tg_tup h
  | nm i =>
    cases ir with
    | seq e => exact absurd rfl (hi e)
    | range e => exact absurd rfl (hr e)
    | enum e => cases ho
    | zip a b => cases ho
/-- a value by its value -/
theorem with_test {X : Cx} {E0 : XK} {e : Expr} {ir : E} (h : PE X e (tE T c cal E0 own ir)) (he : ∀ whole, isTrue e X.env whole = (do let v ← whole; standAt e.pos; holding [v] (truthy v))) : PE X e (tE T c cal E0 own ir) ∧ PT X e (tT T c cal E0 own ir) := ⟨h, plain_test h he⟩
theorem snd_Es {n : Nat} (ih : Snd G k T c cal own n) {X : Cx} {S : Sx} {E0 : XK} (g : Gd G X k T c cal E0) (f : Fit X S own E0) (hl : S.lam = true → AnsOk G X S k T c cal E0 own) {es : List Expr} {irs : Es} (h : cEs G (n + 1) S es = some irs) : PA X es (tEs T c cal E0 own irs) ∧ (∀ e ∈ es, noStar e = true) ∧ irs.len = es.length := by
  cases es with
  | nil =>
    have h : some Es.nil = some irs := h
    cases h
    exact ⟨L_nil, (fun e he => by cases he), rfl⟩
  | cons e es =>
    unfold Nk.cEs at h
    split at h
    · rename_i ir irs' h1 h2
      cases h
      have hn := shape_noStar (cE_shape h1)
      obtain ⟨a1, a2, a3⟩ := ih.cEs g f hl h2
      refine ⟨L_cons (ih.cE g f hl h1).1 a1 (shape_star hn es X.env), fun e' he => ?_, by show irs'.len + 1 = _; rw [a3]; rfl⟩
      rcases List.mem_cons.mp he with rfl | he
      · exact hn
      · exact a2 e' he
    · cases h
theorem snd_B {n : Nat} (ih : Snd G k T c cal own n) {X : Cx} {S : Sx} {E0 : XK} (g : Gd G X k T c cal E0) (f : Fit X S own E0) (hl : S.lam = true → AnsOk G X S k T c cal E0 own) {op : BoolOp} {es : List Expr} {ir : E} (h : cB G (n + 1) S op es = some ir) : BB X op es (tE T c cal E0 own ir) (tT T c cal E0 own ir) := by
  unfold Nk.cB at h
  split at h
  · cases h
  · rename_i n' X' op' e heq
    cases heq
    obtain ⟨p1, p2⟩ := ih.cE g f hl h
    exact L_b1 p1 p2
  · rename_i n' X' e es' hne heq
    cases heq
    split at h
    · rename_i a b h1 h2
      cases h
      obtain ⟨p1, p2⟩ := ih.cE g f hl h1
      have q := ih.cB g f hl h2
      cases es' with
      | nil => exact absurd rfl hne
      | cons e2 es2 => exact L_and p1 p2 q
    · cases h
  · rename_i n' X' e es' hne heq
    cases heq
    split at h
    · rename_i a b h1 h2
      cases h
      obtain ⟨p1, p2⟩ := ih.cE g f hl h1
      have q := ih.cB g f hl h2
      cases es' with
      | nil => exact absurd rfl hne
      | cons e2 es2 => exact L_or p1 p2 q
    · cases h
  · cases h
theorem snd_Eo {n : Nat} (ih : Snd G k T c cal own n) {X : Cx} {S : Sx} {E0 : XK} (g : Gd G X k T c cal E0) (f : Fit X S own E0) (hl : S.lam = true → AnsOk G X S k T c cal E0 own) {e : Option Expr} {ir : Eo} (h : cEo G (n + 1) S e = some ir) : PO X e (tEo T c cal E0 own ir) := by
  cases e with
  | none =>
    have h : some Eo.none = some ir := h
    cases h
    exact L_onone
  | some e =>
    have h : (Nk.cE G n S e).map Eo.some = some ir := h
    obtain ⟨ie, h1, rfl⟩ := Option.map_eq_some_iff.mp h
    exact L_osome (ih.cE g f hl h1).1
theorem snd_Ifs {n : Nat} (ih : Snd G k T c cal own n) {X : Cx} {S : Sx} {E0 : XK} (g : Gd G X k T c cal E0) (f : Fit X S own E0) (hl : S.lam = true → AnsOk G X S k T c cal E0 own) {e : List Expr} {ir : Es} (h : cIfs G (n + 1) S e = some ir) : PTs X e (tIf T c cal E0 own ir) := by
  unfold Nk.cIfs at h
  split at h
  · cases h
  · cases h; exact L_if0
  · rename_i n' X' e' heq
    cases heq
    obtain ⟨ie, h1, rfl⟩ := Option.map_eq_some_iff.mp h
    exact L_if1 (ih.cE g f hl h1).2
  · cases h
theorem snd_It {n : Nat} (ih : Snd G k T c cal own n) {X : Cx} {S : Sx} {E0 : XK} (g : Gd G X k T c cal E0) (f : Fit X S own E0) (hl : S.lam = true → AnsOk G X S k T c cal E0 own) {S' : Sx} {tg e : Expr} {t : Tg} {ir : Nk.It} (ht : cTg S' tg = some t) (ho : okTI t ir = true) (h : cIt G (n + 1) S e = some ir) : PI X tg e (tIt T c cal E0 own ir) ∧ shapeOk e = true := by
  unfold Nk.cIt at h
  split at h
  · cases h
  · rename_i n' X' fx p args q heq
    cases heq
    refine ⟨?_, rfl⟩
    split at h
    · rename_i hf
      subst hf
      split at h
      · rename_i h1
        obtain ⟨ie, h2, rfl⟩ := Option.map_eq_some_iff.mp h
        exact L_range g f h1 (ih.cE g f hl h2).1 (cE_shape h2)
      · cases h
    · split at h
      · rename_i hf
        subst hf
        split at h
        · rename_i h1
          obtain ⟨ie, h2, rfl⟩ := Option.map_eq_some_iff.mp h
          obtain ⟨ts, kk, tp, rfl⟩ := okT_tup ht ho (fun _ z => by cases z) (fun _ z => by cases z)
          exact L_enum g f h1 (ih.cE g f hl h2).1 (cE_shape h2)
        · cases h
      · split at h
        · rename_i hf
          subst hf
          split at h
          · rename_i h1
            split at h
            · rename_i a b h2 h3
              cases h
              obtain ⟨ts, kk, tp, rfl⟩ := okT_tup ht ho (fun _ z => by cases z) (fun _ z => by cases z)
              exact L_zip g f h1 (ih.cE g f hl h2).1 (ih.cE g f hl h3).1 (cE_shape h2) (cE_shape h3)
            · cases h
          · cases h
        · obtain ⟨ie, h2, rfl⟩ := Option.map_eq_some_iff.mp h
          exact L_seq (ih.cE g f hl h2).1
  · rename_i n2 heq hne
    cases heq
    obtain ⟨ie, h2, rfl⟩ := Option.map_eq_some_iff.mp h
    exact ⟨L_seq (ih.cE g f hl h2).1, cE_shape h2⟩
theorem snd_C {n : Nat} (ih : Snd G k T c cal own n) {X : Cx} {S : Sx} {E0 : XK} (g : Gd G X k T c cal E0) (f : Fit X S own E0) (hl : S.lam = true → AnsOk G X S k T c cal E0 own) {fx : Str} {args : List Expr} {p pos : Pos} {ir : E} (hg : isGl S fx = true) (h : cC G (n + 1) S fx args = some ir) : PE X (.Call (.Name fx p) args [] pos) (tE T c cal E0 own ir) := by
  unfold Nk.cC at h
  split at h
  · rename_i hf
    split at h
    · split at h
      · rename_i o a h1 h2 h3
        cases h
        exact L_isi g f hg hf h1 h2 (ih.cE g f hl h3).1 (cE_shape h3)
      · cases h
    · cases h
  · split at h
    · rename_i hf
      subst hf
      split at h
      · rename_i params body scope lpos
        split at h
        · rename_i b h1 h2
          cases h
          simp only [Bool.and_eq_true] at h1
          obtain ⟨⟨⟨⟨⟨⟨⟨⟨l1, l2⟩, l3⟩, l4⟩, l5⟩, l6⟩, l7⟩, l8⟩, l9⟩ := h1
          refine hl l1 params body scope lpos p pos b l2 (by unfold noPars; simp only [Bool.and_eq_true]; exact ⟨⟨⟨⟨⟨⟨l3, l4⟩, l5⟩, l6⟩, l7⟩, l8⟩, l9⟩) hg fun Y E1 gY fY => (ih.cE gY fY (fun z => by cases z) h2).1
        · cases h
      · cases h
    · split at h
      · rename_i o ho
        split at h
        · rename_i x px
          split at h
          · rename_i i h1 h2
            cases h
            simp only [Bool.and_eq_true, decide_eq_true_eq] at h1
            obtain ⟨rfl, h1⟩ := h1
            exact L_tupOwn g f hg h2 h1
          · cases h
          · obtain ⟨ie, h2, rfl⟩ := Option.map_eq_some_iff.mp h
            exact L_b g f hg ho (ih.cE g f hl h2).1 rfl
        · obtain ⟨ie, h2, rfl⟩ := Option.map_eq_some_iff.mp h
          exact L_b g f hg ho (ih.cE g f hl h2).1 (cE_shape h2)
        · cases h
      · split at h
        · rename_i i es h1 h2
          cases h
          obtain ⟨a1, a2, a3⟩ := ih.cEs g f hl h2
          cases args with
          | nil =>
            cases es with
            | nil => exact L_call0 g f hg h1
            | cons _ _ => cases a3
          | cons e es' => exact L_call g f hg h1 a1 a2
        · cases h
theorem snd_E {n : Nat} (ih : Snd G k T c cal own n) {X : Cx} {S : Sx} {E0 : XK} (g : Gd G X k T c cal E0) (f : Fit X S own E0) (hl : S.lam = true → AnsOk G X S k T c cal E0 own) {e : Expr} {ir : E} (h : cE G (n + 1) S e = some ir) : PE X e (tE T c cal E0 own ir) ∧ PT X e (tT T c cal E0 own ir) := by
  unfold Nk.cE at h
  split at h
  all_goals try (have hq := Nat.succ.inj ‹n + 1 = Nat.succ _›; subst hq)
  · cases h
  · obtain ⟨d, h1, rfl⟩ := Option.map_eq_some_iff.mp h
    exact with_test (L_const g h1) fun _ => rfl
  · split at h
    · rename_i i h1 h2
      cases h
      exact with_test (L_var f h2 h1) fun _ => rfl
    · split at h
      · rename_i i h1 h2
        cases h
        exact with_test (L_glob g f h1 h2) fun _ => rfl
      · cases h
  · split at h
    · rename_i h0
      obtain ⟨irs, h1, rfl⟩ := Option.map_eq_some_iff.mp h
      obtain ⟨a1, a2, a3⟩ := ih.cEs g f hl h1
      exact with_test (L_tup a1 (by rw [a3]; exact h0)) fun _ => rfl
    · cases h
  · split at h
    · rename_i h0
      obtain ⟨irs, h1, rfl⟩ := Option.map_eq_some_iff.mp h
      obtain ⟨a1, a2, a3⟩ := ih.cEs g f hl h1
      exact with_test (L_lst a1 (by rw [a3]; exact h0)) fun _ => rfl
    · cases h
  · split at h
    · rename_i o a b h1 h2 h3
      cases h
      exact with_test (L_bin h1 (ih.cE g f hl h2).1 (ih.cE g f hl h3).1) fun _ => rfl
    · cases h
  · obtain ⟨ie, h2, rfl⟩ := Option.map_eq_some_iff.mp h
    exact L_not (ih.cE g f hl h2).1 (ih.cE g f hl h2).2
  · obtain ⟨ie, h2, rfl⟩ := Option.map_eq_some_iff.mp h
    exact with_test (L_neg (ih.cE g f hl h2).1) fun _ => rfl
  · have q := ih.cB g f hl h
    exact ⟨(q _).1, ⟨fun pins s σ H Q I w => (q _).2.run _ pins s σ H Q I w⟩⟩
  · split at h
    · rename_i t a b h1 h2 h3
      cases h
      exact L_ite (ih.cE g f hl h1).2 (ih.cE g f hl h2).1 (ih.cE g f hl h3).1 (ih.cE g f hl h2).2 (ih.cE g f hl h3).2
    · cases h
  · obtain ⟨ie, h2, rfl⟩ := Option.map_eq_some_iff.mp h
    exact L_isnone (ih.cE g f hl h2).1
  · obtain ⟨ie, h2, rfl⟩ := Option.map_eq_some_iff.mp h
    exact L_notnone (ih.cE g f hl h2).1
  · split at h
    · rename_i o a b h1 h2 h3
      cases h
      exact L_cmp g h1 (ih.cE g f hl h2).1 (ih.cE g f hl h3).1 (shape_marks (cE_shape h3) _)
    · cases h
  · split at h
    · rename_i o q a b d h1 h2 h3 h4 h5
      cases h
      exact L_chain g h1 h2 (ih.cE g f hl h3).1 (ih.cE g f hl h4).1 (ih.cE g f hl h5).1 (shape_marks (cE_shape h5) _)
    · cases h
  · split at h
    · rename_i a l r h1 h2 h3
      cases h
      exact with_test (L_slice (ih.cE g f hl h1).1 (ih.cEo g f hl h2) (ih.cEo g f hl h3)) fun _ => rfl
    · cases h
  · obtain ⟨ie, h2, rfl⟩ := Option.map_eq_some_iff.mp h
    exact with_test (L_rev (ih.cE g f hl h2).1) fun _ => rfl
  · split at h
    · rename_i a b h1 h2 h3
      cases h
      exact with_test (L_ix (ih.cE g f hl h2).1 (ih.cE g f hl h3).1 (shape_ix (cE_shape h3))) fun _ => rfl
    · cases h
  · split at h
    · rename_i h1
      exact with_test (ih.cC g f hl h1 h) fun _ => rfl
    · cases h
  · split at h
    · rename_i it t e i h1 h2 h3 h4 h5
      split at h
      · rename_i ho
        cases h
        simp only [Bool.and_eq_true] at h1
        obtain ⟨⟨hc, hb⟩, hno⟩ := h1
        have dx := f.df hc
        obtain ⟨pi, sh⟩ := ih.cIt g f hl h3 ho h2
        have ok := blkOk_by hb
        rw [f.N, f.sc] at ok
        refine with_test (PE.imp (pe_lcX dx g.calm g.nd pi ok (fun s H C cl fp px => L_tg (own := own) (g.blk px).calm (g.blk px).nd f.blk h3) (fun s H C cl fp px => ih.cIfs (g.blk px) f.blk (fun z => by cases z) h5) (fun s H C cl fp px => (ih.cE (g.blk px) f.blk (fun z => by cases z) h4).1) (shape_set sh X.env)) ?_) fun _ => rfl
        rw [← f.N]
        refine lc_read (cTg_own h3) fun i hi => ?_
        have hm := cTg_own h3 i hi
        obtain ⟨pr, hp, rfl⟩ := List.mem_map.mp hm
        have hpo := List.all_eq_true.mp hno pr hp
        have hx := (blkOk_by hb).ix pr hp
        rw [f.N] at hx
        rw [f.own _ _ hx]
        simpa using hpo
      · cases h
    · cases h
  · cases h
theorem snd_all : ∀ n, Snd G k T c cal own n
  | 0 => ⟨by intros; rename_i h; simp [Nk.cE] at h, by intros; rename_i h; simp [Nk.cEs] at h, by intros; rename_i h; simp [Nk.cB] at h, by intros; rename_i h; simp [Nk.cEo] at h, by intros; rename_i h; simp [Nk.cIfs] at h, by intros; rename_i h; simp [Nk.cIt] at h, by intros; rename_i h; simp [Nk.cC] at h⟩
  | n + 1 => ⟨snd_E (snd_all n), snd_Es (snd_all n), snd_B (snd_all n), snd_Eo (snd_all n), snd_Ifs (snd_all n), snd_It (snd_all n), snd_C (snd_all n)⟩
end
end Nk
end
section
set_option Elab.async false
set_option linter.all false
set_option maxRecDepth 100000
set_option maxHeartbeats 1000000
/-! statements -/
namespace Nk
open PySem PySem.Spec PyProof.Rows L2
section
variable {T : TL} {c : Cl} {cal : Nat → List D → Nk.M D} {E0 : XK} {own : Nat → Bool} {a0 : Addr} {M0 M M' M1 : Addr → Prop} {Hi H H' H1 : Hp} {st st' st1 : Sr} {σ σ' : L2.St} {ρ ρ' : Env}
/-- a def's state: entered at Hi with M0 -/
structure Stt (T : TL) (own : Nat → Bool) (a0 : Addr) (M0 : Addr → Prop) (Hi : Hp) (M : Addr → Prop) (H : Hp) (st : Sr) (σ : L2.St) (ρ : Env) : Prop where
  hs : Hs a0 M T H st
  env : EnvR0 a0 M0 M own H σ ρ
  ext : Ext a0 Hi H
  lat : Later M0 Hi M H
theorem Stt.step (s : Stt T own a0 M0 Hi M H st σ ρ) (x : Ext a0 H H1) (hs : Hs a0 M T H1 st1) : Stt T own a0 M0 Hi M H1 st1 σ ρ := ⟨hs, s.env.ext s.hs x, s.ext.trans x, s.lat.trans (Later.ext s.hs x)⟩
theorem Stt.en (s : Stt T own a0 M0 Hi M H st σ ρ) : EnvR a0 M own H σ ρ := ⟨M0, s.env⟩
/-- how a statement may end: D by M, H ahead of it -/
def ResF (T : TL) (c : Cl) (E0 : XK) (own : Nat → Bool) (a0 : Addr) (M0 : Addr → Prop) (Hi : Hp) (M : Addr → Prop) (H : Hp) (r : R Fl) (D : Ends) : Prop := match r with
  | .ok (.nx ρ') st' => ∀ M' H' σ', Stt T own a0 M0 Hi M' H' st' σ' ρ' → Later M H M' H' → D.nx σ' H'
  | .ok (.rt d) st' => ∀ v H', Ext a0 Hi H' → Hs a0 M0 T H' st' → Rep a0 M0 H' v d → D.rt v H'
  | .err x st' => ∀ cls dx H', Ext a0 Hi H' → Hs a0 M0 T H' st' → XRep c H' x cls dx → E0 cls dx H'
  | .stuck => False
theorem ResF.mono {r : R Fl} {D D' : Ends} (h : ResF T c E0 own a0 M0 Hi M H r D) (n : ∀ ρ' st' M' H' σ', Stt T own a0 M0 Hi M' H' st' σ' ρ' → Later M H M' H' → D.nx σ' H' → D'.nx σ' H') (t : ∀ v H', D.rt v H' → D'.rt v H') : ResF T c E0 own a0 M0 Hi M H r D' := by
  match r, h with
  | .ok (.nx ρ') st', h => exact fun M' H' σ' s l => n ρ' st' M' H' σ' s l (h M' H' σ' s l)
  | .ok (.rt d) st', h => exact fun v H' a b e => t v H' (h v H' a b e)
  | .err x st', h => exact h
theorem ResF.later {r : R Fl} {D : Ends} (h : ResF T c E0 own a0 M0 Hi M H r D) (l : Later M H M1 H1) : ResF T c E0 own a0 M0 Hi M1 H1 r D := by
  match r, h with
  | .ok (.nx ρ') st', h => exact fun M' H' σ' s l' => h M' H' σ' s (l.trans l')
  | .ok (.rt d) st', h => exact h
  | .err x st', h => exact h
/-- what is read of a statement -/
def tS (T : TL) (c : Cl) (cal : Nat → List D → Nk.M D) (E0 : XK) (own : Nat → Bool) (a0 : Addr) (M0 : Addr → Prop) (Hi : Hp) (ir : S) : TS := fun D σ H => ∃ M st ρ, Stt T own a0 M0 Hi M H st σ ρ ∧ ResF T c E0 own a0 M0 Hi M H (evS cal ir ρ st) D
def tSs (T : TL) (c : Cl) (cal : Nat → List D → Nk.M D) (E0 : XK) (own : Nat → Bool) (a0 : Addr) (M0 : Addr → Prop) (Hi : Hp) (ir : Ss) : TS := fun D σ H => ∃ M st ρ, Stt T own a0 M0 Hi M H st σ ρ ∧ ResF T c E0 own a0 M0 Hi M H (evSs cal ir ρ st) D
/-- an expression, then the rest of a statement -/
theorem ResF.bnd {α : Type} {m : Nk.M α} {f : α → Nk.M Fl} {D : Ends} (s : Stt T own a0 M0 Hi M H st σ ρ) (h : ResF T c E0 own a0 M0 Hi M H (Nk.bnd m f st) D) : Res T c E0 a0 M H (m st) fun a H1 st1 => Stt T own a0 M0 Hi M H1 st1 σ ρ ∧ ResF T c E0 own a0 M0 Hi M H (f a st1) D := by
  unfold Nk.bnd at h
  cases e : m st with
  | ok d s' =>
    rw [e] at h
    exact fun H' x hs => ⟨s.step x hs, h⟩
  | err y s' =>
    rw [e] at h
    exact fun cls dx H' x hs q => h cls dx H' (s.ext.trans x) (hs.weak (s.env.m00) s.lat.sub) q
  | stuck =>
    rw [e] at h
    exact h
theorem ResF.ofO {α : Type} {o : Option α} {f : α → Nk.M Fl} {D : Ends} (h : ResF T c E0 own a0 M0 Hi M H (Nk.bnd (ofO o) f st) D) : ∃ a, o = some a ∧ ResF T c E0 own a0 M0 Hi M H (f a st) D := by
  cases o with
  | none => exact h.elim
  | some a => exact ⟨a, rfl, h⟩
theorem ResF.nx {D : Ends} (h : ResF T c E0 own a0 M0 Hi M H (ret (.nx ρ') st) D) : ∀ M' H' σ', Stt T own a0 M0 Hi M' H' st σ' ρ' → Later M H M' H' → D.nx σ' H' := h
/-- a store into slots -/
theorem Stt.store (s : Stt T own a0 M0 Hi M H st σ ρ) (e : EnvR0 a0 M0 M own H σ' ρ') : Stt T own a0 M0 Hi M H st σ' ρ' := ⟨s.hs, e, s.ext, s.lat⟩
end
section
variable {G : Gx} {X : Cx} {k : Nat} {T : TL} {c : Cl} {cal : Nat → List D → Nk.M D} {E0 : XK} {own : Nat → Bool} {a0 : Addr} {M0 : Addr → Prop} {Hi : Hp}
/-- name = e -/
theorem tAsg_of {te : TE} {ir : E} {i : Nat} (ho : own i = false) (hte : ∀ σ H Q, tE T c cal E0 own ir σ H Q → te σ H Q) : ∀ D σ H, tS T c cal E0 own a0 M0 Hi (.asg i ir) D σ H → tAsg te (gName i) D σ H := by
  rintro D σ H ⟨M, st, ρ, s, r⟩
  have r : ResF T c E0 own a0 M0 Hi M H (bnd (evE cal ir ρ) (fun x => bnd (ofO (asgTg (.nm i) x ρ)) fun ρ' => ret (.nx ρ')) st) D := r
  refine hte σ H _ ⟨a0, M, st, ρ, s.hs, s.en, (r.bnd s).mono fun d H1 st1 x hs1 ⟨s1, r1⟩ v hv => ?_⟩
  obtain ⟨ρ', e1, r1⟩ := r1.ofO
  have e1 : (if i < ρ.length then some (ρ.set i (some d)) else none) = some ρ' := e1
  split at e1
  · rename_i hi
    cases e1
    exact r1.nx M H1 _ (s1.store (s1.env.set ho hv hi)) (Later.ext s.hs x)
  · cases e1
/-- a, b = e -/
theorem L_asgT {S : Sx} (g : Gd G X k T c cal E0) (f : Fit X S own E0) {ts : List Expr} {is : List Nat} {e : Expr} {ir : E} {kk : Nat} {tp pos : Pos} (ht : tgsOf S ts = some is) (hd : isDisp e = false) (he : PE X e (tE T c cal E0 own ir)) : PS X (.Assign [.Tuple ts kk tp] e pos) (tS T c cal E0 own a0 M0 Hi (.asgT is ir)) := by
  have hg : PG X (.Tuple ts kk tp) (tTg own (.tup is)) := L_tg g.calm g.nd f (by show (tgsOf S ts).map Tg.tup = _; rw [ht]; rfl)
  have h1 : swapsWithSole [.Tuple ts kk tp] e pos.line X.env = pure false := by cases e <;> rfl
  have h2 : swappedStores [.Tuple ts kk tp] e X.env = pure none := by cases e <;> first | rfl | cases hd
  refine PS.imp (ps_asg he hg h1 h2 rfl) ?_
  rintro D σ H ⟨M, st, ρ, s, r⟩
  have r : ResF T c E0 own a0 M0 Hi M H (bnd (evE cal ir ρ) (fun x => bnd (ofO (asgTg (.tup is) x ρ)) fun ρ' => ret (.nx ρ')) st) D := r
  refine ⟨a0, M, st, ρ, s.hs, s.en, (r.bnd s).mono fun d H1 st1 x hs1 ⟨s1, r1⟩ v hv => ?_⟩
  obtain ⟨ρ', e1, r1⟩ := r1.ofO
  refine ⟨a0, M0, M, d, ρ, ρ', hv, s1.env, e1, ?_, fun σ' e' _ _ => r1.nx M H1 σ' (s1.store e') (Later.ext s.hs x)⟩
  intro i hi
  have : ∀ {ts : List Expr} {is : List Nat}, tgsOf S ts = some is → ∀ i ∈ is, own i = false := by
    intro ts
    induction ts with
    | nil => intro is h i hi; cases h; cases hi
    | cons e ts ih =>
      intro is h i hi
      obtain ⟨x, p, j, js, rfl, h1, h2, h3, rfl⟩ := tgs_cons h
      rcases List.mem_cons.mp hi with rfl | hi
      · rw [f.own _ x (tgOf_of f h2).1]; exact h1
      · exact ih h3 i hi
  exact this ht i hi
theorem L_rtn {e : Expr} {ir : E} {pos : Pos} (he : PE X e (tE T c cal E0 own ir)) : PS X (.Return (some e) pos) (tS T c cal E0 own a0 M0 Hi (.rtn ir)) := by
  refine PS.imp (ps_ret he) ?_
  rintro D σ H ⟨M, st, ρ, s, r⟩
  have r : ResF T c E0 own a0 M0 Hi M H (bnd (evE cal ir ρ) (fun x => ret (.rt x)) st) D := r
  refine ⟨a0, M, st, ρ, s.hs, s.en, (r.bnd s).mono fun d H1 st1 x hs1 ⟨s1, r1⟩ v hv => ?_⟩
  have r1 : ∀ v H', Ext a0 Hi H' → Hs a0 M0 T H' st1 → Rep a0 M0 H' v d → D.rt v H' := r1
  exact r1 v H1 s1.ext (hs1.weak s1.env.m00 s1.lat.sub) (hv.mono (fun _ _ e _ => e) fun b xs e n m => n (s1.lat.sub b m))
theorem L_exp {e : Expr} {ir : E} {pos : Pos} (he : PE X e (tE T c cal E0 own ir)) (hs : swapsWith e none pos.line X.env = pure false) : PS X (.Expr e pos) (tS T c cal E0 own a0 M0 Hi (.exp ir)) := by
  refine PS.imp (ps_expr he hs) ?_
  rintro D σ H ⟨M, st, ρ, s, r⟩
  have r : ResF T c E0 own a0 M0 Hi M H (bnd (evE cal ir ρ) (fun _ => ret (.nx ρ)) st) D := r
  refine ⟨a0, M, st, ρ, s.hs, s.en, (r.bnd s).mono fun d H1 st1 x hs1 ⟨s1, r1⟩ v hv => ?_⟩
  exact r1.nx M H1 σ s1 (Later.ext s.hs x)
theorem L_ifS {e : Expr} {ir : E} {a b : List Stmt} {ia ib : Ss} {pos : Pos} (he : PT X e (tT T c cal E0 own ir)) (ha : PSs X a (tSs T c cal E0 own a0 M0 Hi ia)) (hb : PSs X b (tSs T c cal E0 own a0 M0 Hi ib)) : PS X (.If e a b pos) (tS T c cal E0 own a0 M0 Hi (.ite ir ia ib)) := by
  refine PS.imp (ps_if he ha hb) ?_
  rintro D σ H ⟨M, st, ρ, s, r⟩
  have r : ResF T c E0 own a0 M0 Hi M H (bnd (evE cal ir ρ) (fun x => bnd (truth x) fun k => match k with | true => evSs cal ia ρ | false => evSs cal ib ρ) st) D := r
  rw [← bnd_assoc] at r
  refine ⟨a0, M, st, ρ, s.hs, s.en, (r.bnd s).mono fun d H1 st1 x hs1 ⟨s1, r1⟩ => ?_⟩
  cases d with
  | true => exact iteT ⟨M, st1, ρ, s1, r1.later (Later.ext s.hs x)⟩
  | false => exact iteF ⟨M, st1, ρ, s1, r1.later (Later.ext s.hs x)⟩
theorem L_ssNil : PSs X [] (tSs T c cal E0 own a0 M0 Hi .nil) := ⟨fun pins s σ H D I ⟨M, st, ρ, s', r⟩ => pss_nil.run pins s σ H D I (ResF.nx (show ResF T c E0 own a0 M0 Hi M H (ret (.nx ρ) st) D from r) M H σ s' Later.refl)⟩
theorem L_ssCons {s : Stmt} {ss : List Stmt} {is : S} {iss : Ss} (h1 : PS X s (tS T c cal E0 own a0 M0 Hi is)) (h2 : PSs X ss (tSs T c cal E0 own a0 M0 Hi iss)) : PSs X (s :: ss) (tSs T c cal E0 own a0 M0 Hi (.cons is iss)) := by
  refine PSs.imp (pss_cons h1 h2) ?_
  rintro D σ H ⟨M, st, ρ, s, r⟩
  refine ⟨M, st, ρ, s, ?_⟩
  have r : ResF T c E0 own a0 M0 Hi M H (bnd (evS cal is ρ) (fun fl => match fl with | .nx ρ' => evSs cal iss ρ' | .rt d => ret (.rt d)) st) D := r
  unfold Nk.bnd at r
  cases e : evS cal is ρ st with
  | ok fl st1 =>
    rw [e] at r
    cases fl with
    | nx ρ' => exact fun M' H' σ' s' l => ⟨M', st1, ρ', s', r.later l⟩
    | rt d => exact r
  | err x st1 => rw [e] at r; exact r
  | stuck => rw [e] at r; exact r
/-! loops -/
theorem L_for (g : Gd G X k T c cal E0) (dx : Df' X E0) {tg iter : Expr} {t : Tg} {it : Nk.It} {body : List Stmt} {ib : Ss} {pos : Pos} (hi : PI X tg iter (tIt T c cal E0 own it)) (hg : PG X tg (tTg own t)) (ho : ∀ i ∈ t.ixs, own i = false) (hb : PSs X body (tSs T c cal E0 own a0 M0 Hi ib)) (hsh : shapeOk iter = true) :
    PS X (.For tg iter body [] pos) (tS T c cal E0 own a0 M0 Hi (.for_ t it ib)) := by
  refine PS.imp (ps_for dx.po g.calm hi hg hb (shape_set hsh X.env)) ?_
  rintro D σ H ⟨M, st, ρ, s, r⟩
  have r : ResF T c E0 own a0 M0 Hi M H (bnd (evIt cal it ρ) (fun xs => forLoop (fun x ρ => bnd (ofO (asgTg t x ρ)) fun ρ' => evSs cal ib ρ') xs ρ) st) D := r
  refine ⟨a0, M, st, ρ, s.hs, s.en, (r.bnd s).mono fun ds H1 st1 x hs1 ⟨s1, r1⟩ J gJ => ?_⟩
  have r1 := r1.later (Later.ext s.hs x)
  refine ⟨fun i m σc Hc => ∃ Mc stc ρc, m = ds.length - i ∧ i ≤ ds.length ∧ Stt T own a0 M0 Hi Mc Hc stc σc ρc ∧ Later M H1 Mc Hc ∧ ResF T c E0 own a0 M0 Hi Mc Hc (forLoop (fun x ρ => bnd (ofO (asgTg t x ρ)) fun ρ' => evSs cal ib ρ') (ds.drop i) ρc stc) D, ⟨ds.length, M, st1, ρ, rfl, Nat.zero_le _, s1, Later.refl, r1⟩, ?_⟩
  rintro i m σc Hc ⟨Mc, stc, ρc, rfl, hil, sc, lc, rc⟩
  obtain ⟨g1, g2, g3⟩ := gJ.2 Mc Hc stc lc sc.hs
  by_cases hlt : i < ds.length
  · refine .inr ⟨g1 i hlt, fun σ' H' => ∃ Mc stc ρc, i + 1 ≤ ds.length ∧ Stt T own a0 M0 Hi Mc H' stc σ' ρc ∧ Later M H1 Mc H' ∧ ResF T c E0 own a0 M0 Hi Mc H' (forLoop (fun x ρ => bnd (ofO (asgTg t x ρ)) fun ρ' => evSs cal ib ρ') (ds.drop (i + 1)) ρc stc) D, fun σ' H' ⟨Mc, stc, ρc, q⟩ => ⟨ds.length - (i + 1), by omega, Mc, stc, ρc, rfl, q⟩, fun xv H' y => ?_⟩
    obtain ⟨x2, _, hs2, r2⟩ := g3 i xv H' ds[i] (List.getElem?_eq_getElem hlt) y
    have s2 := sc.step x2 hs2
    have l2 := Later.ext sc.hs x2
    have ed : ds.drop i = ds[i] :: ds.drop (i + 1) := List.drop_eq_getElem_cons hlt
    rw [ed] at rc
    have rc : ResF T c E0 own a0 M0 Hi Mc Hc (bnd (bnd (ofO (asgTg t ds[i] ρc)) fun ρ' => evSs cal ib ρ') (fun fl => match fl with | .nx ρ' => forLoop (fun x ρ => bnd (ofO (asgTg t x ρ)) fun ρ' => evSs cal ib ρ') (ds.drop (i + 1)) ρ' | .rt d => ret (.rt d)) stc) D := rc
    rw [bnd_assoc] at rc
    obtain ⟨ρ', ea, rc⟩ := rc.ofO
    have rc := rc.later l2
    refine ⟨a0, M0, Mc, ds[i], ρc, ρ', r2, s2.env, ea, ho, fun σ2 e2 _ _ => ⟨Mc, stc, ρ', s2.store e2, ?_⟩⟩
    unfold Nk.bnd at rc
    cases e : evSs cal ib ρ' stc with
    | ok fl st3 =>
      rw [e] at rc
      cases fl with
      | nx ρ3 => exact fun M3 H3 σ3 s3 l3 => ⟨M3, st3, ρ3, hlt, s3, (lc.trans l2).trans l3, rc.later l3⟩
      | rt d => exact rc
    | err y st3 => rw [e] at rc; exact rc
    | stuck => rw [e] at rc; exact rc
  · have hi' : i = ds.length := by omega
    subst hi'
    refine .inl ⟨g2, ?_⟩
    rw [List.drop_length] at rc
    exact ResF.nx (show ResF T c E0 own a0 M0 Hi Mc Hc (ret (.nx ρc) stc) D from rc) Mc Hc σc sc Later.refl
theorem L_whl (dx : Df' X E0) {e : Expr} {ie : E} {body : List Stmt} {ib : Ss} {pos : Pos} (he : PT X e (tT T c cal E0 own ie)) (hb : PSs X body (tSs T c cal E0 own a0 M0 Hi ib)) : PS X (.While e body [] pos) (tS T c cal E0 own a0 M0 Hi (.whl ie ib)) := by
  refine PS.imp (ps_while dx.po he hb) ?_
  rintro D σ H ⟨M, st, ρ, s, r⟩
  have r : ResF T c E0 own a0 M0 Hi M H (whlLoop (fun ρ => bnd (evE cal ie ρ) truth) (fun ρ => evSs cal ib ρ) WN ρ st) D := r
  refine ⟨fun m σc Hc => ∃ Mc stc ρc, Stt T own a0 M0 Hi Mc Hc stc σc ρc ∧ ResF T c E0 own a0 M0 Hi Mc Hc (whlLoop (fun ρ => bnd (evE cal ie ρ) truth) (fun ρ => evSs cal ib ρ) m ρc stc) D, ⟨WN, M, st, ρ, s, r⟩, ?_⟩
  rintro m σc Hc ⟨Mc, stc, ρc, sc, rc⟩
  cases m with
  | zero => exact rc.elim
  | succ m =>
    have rc : ResF T c E0 own a0 M0 Hi Mc Hc (bnd (bnd (evE cal ie ρc) truth) (fun b => match b with | true => bnd (evSs cal ib ρc) (fun fl => match fl with | .nx ρ' => whlLoop (fun ρ => bnd (evE cal ie ρ) truth) (fun ρ => evSs cal ib ρ) m ρ' | .rt d => ret (.rt d)) | false => ret (.nx ρc)) stc) D := rc
    refine ⟨a0, Mc, stc, ρc, sc.hs, sc.en, (rc.bnd sc).mono fun b H1 st1 x hs1 ⟨s1, r1⟩ => ?_⟩
    have r1 := r1.later (Later.ext sc.hs x)
    cases b with
    | false => exact iteF (ResF.nx (show ResF T c E0 own a0 M0 Hi Mc H1 (ret (.nx ρc) st1) D from r1) Mc H1 σc s1 Later.refl)
    | true =>
      refine iteT ⟨fun σ' H' => ∃ Mc stc ρc, Stt T own a0 M0 Hi Mc H' stc σ' ρc ∧ ResF T c E0 own a0 M0 Hi Mc H' (whlLoop (fun ρ => bnd (evE cal ie ρ) truth) (fun ρ => evSs cal ib ρ) m ρc stc) D, fun σ' H' q => ⟨m, Nat.lt_succ_self m, q⟩, Mc, st1, ρc, s1, ?_⟩
      have r1 : ResF T c E0 own a0 M0 Hi Mc H1 (bnd (evSs cal ib ρc) (fun fl => match fl with | .nx ρ' => whlLoop (fun ρ => bnd (evE cal ie ρ) truth) (fun ρ => evSs cal ib ρ) m ρ' | .rt d => ret (.rt d)) st1) D := r1
      unfold Nk.bnd at r1
      cases e : evSs cal ib ρc st1 with
      | ok fl st3 =>
        rw [e] at r1
        cases fl with
        | nx ρ3 => exact fun M3 H3 σ3 s3 l3 => ⟨M3, st3, ρ3, s3, r1.later l3⟩
        | rt d => exact r1
      | err y st3 => rw [e] at r1; exact r1
      | stuck => rw [e] at r1; exact r1
end
end Nk
end
section
set_option Elab.async false
set_option linter.all false
set_option maxRecDepth 100000
set_option maxHeartbeats 1000000
/-! statements: own lists, several names at once, raises -/
namespace Nk
open PySem PySem.Spec PyProof.Rows L2
section
variable {T : TL} {own : Nat → Bool} {a0 : Addr} {M0 M M' M1 : Addr → Prop} {Hi H H' H1 : Hp} {st st' st1 : Sr} {σ σ' : L2.St} {ρ ρ' : Env}
/-- a new own list -/
theorem Stt.new (s : Stt T own a0 M0 Hi M H st σ ρ) {i : Nat} {p : Addr} (ho : own i = true) (hi : i < ρ.length) (hp : H p = none) : Stt T own a0 M0 Hi (fun b => M b ∨ b = p) (upd H p (.lst [])) st (σ.set i (some (.ref p))) (ρ.set i (some (.lst []))) ∧ Later M H (fun b => M b ∨ b = p) (upd H p (.lst [])) := by
  have hσ : i < σ.length := by rw [s.env.len]; exact hi
  have x : Ext a0 H (upd H p (.lst [])) := Ext.new hp
  have nM : ¬ M p := s.hs.fresh hp
  have l : Later M H (fun b => M b ∨ b = p) (upd H p (.lst [])) := ⟨fun _ h => .inl h, (fun b o hb n e => by
    rcases hb with hb | rfl
    · exact absurd hb n
    · rw [hp] at e; cases e), fun b o e n t => by rw [upd_ne (ne_of_none e hp)]; exact e⟩
  have hs1 := s.hs.new (o := .lst []) hp
  have n0 : ¬ M0 p := fun h => nM (s.lat.sub p h)
  have e1 := s.env.later s.hs x l
  refine ⟨⟨⟨hs1.src, .inl hs1.m0, fun b hb => ?_, hs1.tabs⟩, ?_, s.ext.trans x, s.lat.trans l⟩, l⟩
  · rcases hb with hb | rfl
    · exact hs1.md b hb
    · exact ⟨[], upd_same⟩
  · have key : ∀ j d, j ≠ i → ρ[j]? = some (some d) → σ[j]? ≠ some (some (.ref p)) ∨ own j = false := fun j d hj hd => by
      by_cases hoj : own j = true
      · refine .inl fun z => ?_
        obtain ⟨v, h1, h2⟩ := s.env.slot j d hd
        rw [z] at h1
        cases h1
        rw [hoj] at h2
        obtain ⟨a, xs, ds, e1, _, _, _, e3, _⟩ := h2
        cases e1
        rw [hp] at e3; cases e3
      · exact .inr (by simpa using hoj)
    refine ⟨e1.m00, by simp [e1.len], fun j d hd => ?_, fun j m a h1 h2 hjm hs hj hm => ?_⟩
    · by_cases hj : j = i
      · subst hj
        rw [List.getElem?_set_self hi] at hd
        cases hd
        exact ⟨.ref p, by rw [List.getElem?_set_self hσ], by rw [ho]; exact ⟨p, [], [], rfl, rfl, .inr rfl, n0, upd_same, Nat.zero_le _, .nil⟩⟩
      · rw [List.getElem?_set_ne (Ne.symm hj)] at hd
        obtain ⟨u, h1, h2⟩ := e1.slot j d hd
        exact ⟨u, by rw [List.getElem?_set_ne (Ne.symm hj)]; exact h1, h2⟩
    · have got : ∀ n, n ≠ i → (ρ.set i (some (.lst [])))[n]?.bind id ≠ none → ∃ d, ρ[n]? = some (some d) := fun n hn z => by
        rw [List.getElem?_set_ne (Ne.symm hn)] at z
        cases e : ρ[n]? with
        | none => rw [e] at z; exact absurd rfl z
        | some o => cases o with
          | none => rw [e] at z; exact absurd rfl z
          | some d => exact ⟨d, rfl⟩
      by_cases hji : j = i
      · subst hji
        rw [List.getElem?_set_self hσ] at hs
        cases hs
        have hmj : m ≠ j := Ne.symm hjm
        obtain ⟨d, hd⟩ := got m hmj hm
        rw [List.getElem?_set_ne (Ne.symm hmj)]
        rcases key m d hmj hd with z | z
        · exact z
        · rw [h2] at z; cases z
      · by_cases hmi : m = i
        · subst hmi
          rw [List.getElem?_set_self hσ]
          obtain ⟨d, hd⟩ := got j hji hj
          rw [List.getElem?_set_ne (Ne.symm hji)] at hs
          intro z
          cases z
          rcases key j d hji hd with z | z
          · exact z hs
          · rw [h1] at z; cases z
        · rw [List.getElem?_set_ne (Ne.symm hji)] at hs hj
          rw [List.getElem?_set_ne (Ne.symm hmi)] at hm ⊢
          exact e1.apart j m a h1 h2 hjm hs hj hm
/-- an own list with one more item -/
theorem Stt.app (s : Stt T own a0 M0 Hi M H st σ ρ) {i : Nat} {a : Addr} {xs : List V} {ds : List D} {v : V} {d : D} (ho : own i = true) (hr : ρ[i]? = some (some (.lst ds))) (hsl : σ[i]? = some (some (.ref a))) (hm : M a) (n0 : ¬ M0 a) (e : H a = some (.lst xs)) (rs : Reps a0 M H xs ds) (r : Rep a0 M H v d) (hl : ds.length < line) :
    Stt T own a0 M0 Hi M (upd H a (.lst (xs ++ [v]))) st σ (ρ.set i (some (.lst (ds ++ [d])))) ∧ Later M H M (upd H a (.lst (xs ++ [v]))) := by
  have na : a ≠ a0 := fun z => n0 (z ▸ s.env.m00)
  have l : Later M H M (upd H a (.lst (xs ++ [v]))) := Later.put hm
  have hi : i < ρ.length := by
    rcases Nat.lt_or_ge i ρ.length with h | h
    · exact h
    · rw [List.getElem?_eq_none h] at hr; cases hr
  refine ⟨⟨s.hs.put hm na e, ⟨s.env.m00, by simp [s.env.len], fun j d' hd => ?_, fun j m b h1 h2 hjm hs hj hmm => ?_⟩, fun b o eb nb tb => ?_, s.lat.trans l⟩, l⟩
  · by_cases hj : j = i
    · subst hj
      rw [List.getElem?_set_self hi] at hd
      cases hd
      refine ⟨.ref a, hsl, ?_⟩
      rw [ho]
      exact ⟨a, xs ++ [v], ds ++ [d], rfl, rfl, hm, n0, upd_same, by rw [List.length_append, List.length_singleton]; omega, l.reps (rs.append (.cons r .nil)) s.hs.noTup⟩
    · rw [List.getElem?_set_ne (Ne.symm hj)] at hd
      obtain ⟨u, h1, h2⟩ := s.env.slot j d' hd
      refine ⟨u, h1, ?_⟩
      cases hoj : own j with
      | false => rw [hoj] at h2; exact l.rep h2 s.hs.noTup
      | true =>
        rw [hoj] at h2
        obtain ⟨b, ys, es, e1, e2, m, n, e3, k, q⟩ := h2
        subst e1
        have hba : b ≠ a := fun z => by
          subst z
          exact s.env.apart i j b ho hoj (Ne.symm hj) hsl (by rw [hr]; simp) (by rw [hd]; simp) h1
        exact ⟨b, ys, es, rfl, e2, m, n, by rw [upd_ne hba]; exact e3, k, l.reps q s.hs.noTup⟩
  · have g : ∀ n, (ρ.set i (some (.lst (ds ++ [d]))))[n]?.bind id ≠ none → ρ[n]?.bind id ≠ none := fun n z => by
      by_cases hn : n = i
      · rw [hn, hr]; simp
      · rw [List.getElem?_set_ne (Ne.symm hn)] at z; exact z
    exact s.env.apart j m b h1 h2 hjm hs (g j hj) (g m hmm)
  · have := s.ext b o eb nb tb
    by_cases hb : b = a
    · subst hb
      exfalso
      obtain ⟨ps, z⟩ := s.lat.new b o hm n0 eb
      exact tb ps z
    · rw [upd_ne hb]; exact this
end
section
variable {G : Gx} {X : Cx} {k : Nat} {T : TL} {c : Cl} {cal : Nat → List D → Nk.M D} {E0 : XK} {own : Nat → Bool} {a0 : Addr} {M0 : Addr → Prop} {Hi : Hp}
theorem L_new {S : Sx} (g : Gd G X k T c cal E0) (f : Fit X S own E0) {x : Str} {i : Nat} {px pl pos : Pos} (hx : tgOf S x = some i) (hS : S.own.contains x = true) : PS X (.Assign [.Name x px] (.List [] pl) pos) (tS T c cal E0 own a0 M0 Hi (.new i)) := by
  obtain ⟨h1, h2, h3⟩ := tgOf_of f hx
  have ho : own i = true := by rw [f.own i x h1]; exact hS
  refine PS.imp (ps_set g.nd h1 h2 (pe_lst pa_nil) rfl h3) ?_
  rintro D σ H ⟨M, st, ρ, s, r⟩
  have r : ResF T c E0 own a0 M0 Hi M H (bnd (ofO (asgTg (.nm i) (.lst []) ρ)) (fun ρ' => ret (.nx ρ')) st) D := r
  obtain ⟨ρ', e1, r1⟩ := r.ofO
  have e1 : (if i < ρ.length then some (ρ.set i (some (.lst []))) else none) = some ρ' := e1
  split at e1
  · rename_i hi
    cases e1
    refine ⟨Nat.zero_le _, fun p hp => ?_⟩
    obtain ⟨s1, l1⟩ := s.new ho hi hp
    exact r1.nx _ _ _ s1 l1
  · cases e1
theorem L_app {S : Sx} (g : Gd G X k T c cal E0) (f : Fit X S own E0) {x : Str} {i : Nat} {e : Expr} {ie : E} {px pa pc pos : Pos} (hx : slotOf S x = some i) (hS : S.own.contains x = true) (hl : (pa.endLine == pc.line) = true) (he : PE X e (tE T c cal E0 own ie)) (hsh : shapeOk e = true) : PS X (.Expr (.Call (.Attribute (.Name x px) ("append" : Str) pa) [e] [] pc) pos) (tS T c cal E0 own a0 M0 Hi (.app i ie)) := by
  obtain ⟨n1, n2, n3, n4⟩ := slotOf_of f hx
  have ho : own i = true := by rw [f.own i x n1]; exact hS
  have h4 := shape_star (shape_noStar hsh) [] X.env
  have hm : PE X (.Call (.Attribute (.Name x px) ("append" : Str) pa) [e] [] pc) (tBM X.K "list" rAppend (tVar i) (tCons (tE T c cal E0 own ie) tNil)) := by
    refine pe_bm PySem.F.plainAttrs_list PySem.F.slot_list_append PySem.F.type_list_append mt_append (pe_var n1 n2 n3 n4) (pa_cons he pa_nil h4) rfl ?_ hl h4 rfl
    rw [h4]; rfl
  refine PS.imp (ps_expr hm rfl) ?_
  rintro D σ H ⟨M, st, ρ, s, r⟩
  have go : ∀ o, ρ[i]? = o → ResF T c E0 own a0 M0 Hi M H ((match o with | some (some (.lst a)) => bnd (evE cal ie ρ) (fun x => if a.length < line then ret (Fl.nx (ρ.set i (some (.lst (a ++ [x]))))) else stk) | _ => stk) st) D → ∃ ds, ρ[i]? = some (some (.lst ds)) ∧ ResF T c E0 own a0 M0 Hi M H (bnd (evE cal ie ρ) (fun x => if ds.length < line then ret (Fl.nx (ρ.set i (some (.lst (ds ++ [x]))))) else stk) st) D := by
    intro o ho r
    match o, ho, r with
    | some (some (.lst a)), ho, r => exact ⟨a, ho, r⟩
  obtain ⟨ds, hr, r⟩ := go _ rfl r
  obtain ⟨v, hv, sl⟩ := s.env.slot i _ hr
  rw [ho] at sl
  obtain ⟨a, xs, ds', rfl, e2, m, n0, e3, hl', rs⟩ := sl
  cases e2
  have na : a ≠ a0 := fun z => n0 (z ▸ s.env.m00)
  refine ⟨_, hv, .inl ⟨rfl, xs, SqL.of e3⟩, a0, M, st, ρ, s.hs, s.en, (r.bnd s).mono fun d H1 st1 x hs1 ⟨s1, r1⟩ v hv1 => ?_⟩
  have e4 : H1 a = some (.lst xs) := x a _ e3 na fun ps z => by cases z
  by_cases hlt : ds.length < line
  · rw [if_pos hlt] at r1
    obtain ⟨s2, l2⟩ := s1.app ho hr hv m n0 e4 (x.reps s.hs rs) hv1 hlt
    have := rs.length
    exact ⟨a, xs, v, rfl, rfl, e4, Nat.lt_of_lt_of_le (by omega : xs.length < line) line_le, r1.nx _ _ _ s2 ((Later.ext s.hs x).trans l2)⟩
  · rw [if_neg hlt] at r1
    exact r1.elim
/-! several names at once -/
def RaOk (X : Cx) (S : Sx) (c : Cl) (E0 : XK) : Prop :=
  (∀ (x m : Str) (xc : Xc) (j : Nat) (p p2 p3 pos : Pos), isGl S x = true → excO x = some xc → PS X (.Raise (some (.Call (.Name x p) [.Constant (.str m) j p2] [] p3)) none pos) (fun _ σ H => E0 (.ref (c.of xc)) none H)) ∧
  (S.rm = true → ∀ (e : Expr) (te : TE) (p p3 pos : Pos), isGl S ("TooMany" : Str) = true → PE X e te → (∀ σ H Q Q', (∀ v H, Q v H → Q' v H) → te σ H Q → te σ H Q') → shapeOk e = true → PS X (.Raise (some (.Call (.Name ("TooMany" : Str) p) [e] [] p3)) none pos) (fun _ σ H => te σ H fun v H1 => ∃ i, v = .int i ∧ okLim i = true ∧ ∀ d, H1 d = none → E0 (.ref c.many) (some d) (upd H1 d (.xd [("limit", .int i)]))))
theorem L_raise {S : Sx} (ra : RaOk X S c E0) {x m : Str} {xc : Xc} {j : Nat} {p p2 p3 pos : Pos} (hg : isGl S x = true) (hx : excO x = some xc) : PS X (.Raise (some (.Call (.Name x p) [.Constant (.str m) j p2] [] p3)) none pos) (tS T c cal E0 own a0 M0 Hi (.raise xc)) := by
  refine PS.imp (ra.1 x m xc j p p2 p3 pos hg hx) ?_
  rintro D σ H ⟨M, st, ρ, s, r⟩
  have r : ∀ cls dx H', Ext a0 Hi H' → Hs a0 M0 T H' st → XRep c H' xc cls dx → E0 cls dx H' := r
  refine r _ _ H s.ext (s.hs.weak s.env.m00 s.lat.sub) ⟨rfl, ?_⟩
  unfold excO at hx
  repeat' split at hx
  all_goals first | (cases hx; done) | (cases hx; rfl)
theorem L_raiseM {S : Sx} (ra : RaOk X S c E0) (hrm : S.rm = true) {e : Expr} {ie : E} {p p3 pos : Pos} (hg : isGl S ("TooMany" : Str) = true) (he : PE X e (tE T c cal E0 own ie)) (hsh : shapeOk e = true) : PS X (.Raise (some (.Call (.Name ("TooMany" : Str) p) [e] [] p3)) none pos) (tS T c cal E0 own a0 M0 Hi (.raiseM ie)) := by
  refine PS.imp (ra.2 hrm e _ p p3 pos hg he (fun σ H Q Q' i ⟨a0, M, st, ρ, hs, he, r⟩ => ⟨a0, M, st, ρ, hs, he, r.mono fun d H1 st1 _ _ q v hv => i v H1 (q v hv)⟩) hsh) ?_
  rintro D σ H ⟨M, st, ρ, s, r⟩
  have r : ResF T c E0 own a0 M0 Hi M H (bnd (evE cal ie ρ) (fun x => match x with | .int i => if okLim i then thr (.many i) else stk | _ => stk) st) D := r
  refine ⟨a0, M, st, ρ, s.hs, s.en, (r.bnd s).mono fun d H1 st1 x hs1 ⟨s1, r1⟩ v hv => ?_⟩
  cases d with
  | int i =>
    cases hv
    have r1 : ResF T c E0 own a0 M0 Hi M H ((if okLim i then thr (.many i) else stk : Nk.M Fl) st1) D := r1
    by_cases hsm : okLim i = true
    case neg => rw [if_neg hsm] at r1; exact r1.elim
    rw [if_pos hsm] at r1
    refine ⟨i, rfl, hsm, fun p hp => ?_⟩
    have r1 : ∀ cls dx H', Ext a0 Hi H' → Hs a0 M0 T H' st1 → XRep c H' (.many i) cls dx → E0 cls dx H' := r1
    have hs0 := (hs1.weak s1.env.m00 s1.lat.sub).new (o := .xd [("limit", .int i)]) hp
    exact r1 _ _ _ (s1.ext.trans (Ext.new hp)) hs0 ⟨rfl, p, rfl, upd_same⟩
  | _ => exact r1.elim
end
end Nk
end
section
set_option Elab.async false
set_option linter.all false
set_option maxRecDepth 100000
set_option maxHeartbeats 1000000
/-! several names at once -/
namespace Nk
open PySem PySem.Spec PyProof.Rows L2
section
variable {env : PySem.Env}
theorem blockFn (hk : env.scope.kind = .function) : env.blockKind = .function := by unfold Env.blockKind; rw [hk]; rfl
theorem erase2 {x y : Str} (h : x ≠ y) : ([x, y] : List Str).eraseDups = [x, y] := by
  have : (y == x) = false := by simpa using Ne.symm h
  simp [List.eraseDups_cons, List.filter, this]
theorem erase3 {x y z : Str} (h : x ≠ y) (h2 : x ≠ z) (h3 : y ≠ z) : ([x, y, z] : List Str).eraseDups = [x, y, z] := by
  have e1 : (y == x) = false := by simpa using Ne.symm h
  have e2 : (z == x) = false := by simpa using Ne.symm h2
  have e3 : (z == y) = false := by simpa using Ne.symm h3
  simp [List.eraseDups_cons, List.filter, e1, e2, e3]
theorem sw2 {x y : Str} {a b : Expr} {px py pt pt2 : Pos} {kt k2 : Nat} (hk : env.scope.kind = .function) (hx : env.scope.names.lookup x = some .local) (hy : env.scope.names.lookup y = some .local) (hl : py.line = px.line) (hne : x ≠ y) (na : noStar a = true) (nb : noStar b = true)
    (hf : [a, b].all (foldedForSure 8) = false) (hc : [a, b].all (constantsAlone 8) = false) : swappedStores [.Tuple [.Name x px, .Name y py] kt pt] (.Tuple [a, b] k2 pt2) env = pure (some [x, y]) := by
  have kx : env.kindOf x = some .local := hx
  have ky : env.kindOf y = some .local := hy
  have hb := blockFn hk
  unfold swappedStores
  dsimp only
  refine Eq.trans (if_neg ?_) (Eq.trans (if_neg ?_) (Eq.trans (if_neg ?_) (Eq.trans (if_neg ?_) (Eq.trans (if_neg ?_) ?_))))
  · rw [hb]; simp
  · intro h
    rw [List.any_cons, List.any_cons, List.any_nil, Bool.or_false] at h
    rcases (Bool.or_eq_true _ _).mp h with h | h
    · clear hf hc; cases a <;> first | (cases na; done) | (cases h; done)
    · clear hf hc; cases b <;> first | (cases nb; done) | (cases h; done)
  · simp [List.filterMap, kx, ky, hl, Expr.pos, erase2 hne]
  · rw [hf]; decide
  · rw [hc]; decide
  · simp [List.filterMap, kx, ky, hl, Expr.pos]
theorem sw3 {x y z : Str} {a b d : Expr} {px py pz pt pt2 : Pos} {kt k2 : Nat} (hk : env.scope.kind = .function) (hx : env.scope.names.lookup x = some .local) (hy : env.scope.names.lookup y = some .local) (hz : env.scope.names.lookup z = some .local) (hl : py.line = px.line) (hl2 : pz.line = px.line) (h1 : x ≠ y) (h2 : x ≠ z) (h3 : y ≠ z) (na : noStar a = true) (nb : noStar b = true) (nd : noStar d = true)
    (hf : [a, b, d].all (foldedForSure 8) = false) (hc : [a, b, d].all (constantsAlone 8) = false) : swappedStores [.Tuple [.Name x px, .Name y py, .Name z pz] kt pt] (.Tuple [a, b, d] k2 pt2) env = pure (some [x, y, z]) := by
  have kx : env.kindOf x = some .local := hx
  have ky : env.kindOf y = some .local := hy
  have kz : env.kindOf z = some .local := hz
  have hb := blockFn hk
  unfold swappedStores
  dsimp only
  refine Eq.trans (if_neg ?_) (Eq.trans (if_neg ?_) (Eq.trans (if_neg ?_) (Eq.trans (if_neg ?_) (Eq.trans (if_neg ?_) ?_))))
  · rw [hb]; simp
  · intro h
    rw [List.any_cons, List.any_cons, List.any_cons, List.any_nil, Bool.or_false] at h
    rcases (Bool.or_eq_true _ _).mp h with h | h
    · clear hf hc; cases a <;> first | (cases na; done) | (cases h; done)
    · rcases (Bool.or_eq_true _ _).mp h with h | h
      · clear hf hc; cases b <;> first | (cases nb; done) | (cases h; done)
      · clear hf hc; cases d <;> first | (cases nd; done) | (cases h; done)
  · simp [List.filterMap, kx, ky, kz, hl, hl2, Expr.pos, erase3 h1 h2 h3]
  · rw [hf]; decide
  · rw [hc]; decide
  · simp [List.filterMap, kx, ky, kz, hl, hl2, Expr.pos]
theorem parOk_names {S : Sx} {ts es : List Expr} (h : parOk S ts es = true) : ∃ xs, namesOf ts = some xs ∧ 2 ≤ xs.length ∧ xs.length ≤ 3 ∧ es.length = xs.length ∧ xs.Nodup ∧ allLocal S xs = true ∧ sameLine (firstLine ts) ts = true ∧ es.all (foldedForSure 8) = false ∧ es.all (constantsAlone 8) = false := by
  unfold parOk at h
  split at h
  · rename_i xs h1
    simp only [Bool.and_eq_true, decide_eq_true_eq, Bool.not_eq_true'] at h
    obtain ⟨⟨⟨⟨⟨⟨⟨a1, a2⟩, a3⟩, a4⟩, a5⟩, a6⟩, a7⟩, a8⟩ := h
    exact ⟨xs, h1, a1, a2, a3, a4, a5, a6, a7, a8⟩
  · cases h
theorem names_cons {e : Expr} {ts : List Expr} {xs : List Str} (h : namesOf (e :: ts) = some xs) : ∃ x p r, e = .Name x p ∧ namesOf ts = some r ∧ xs = x :: r := by
  cases e with
  | Name x p =>
    have h : (namesOf ts).map (x :: ·) = some xs := h
    obtain ⟨r, e, rfl⟩ := Option.map_eq_some_iff.mp h
    exact ⟨x, p, r, rfl, e, rfl⟩
  | _ => exact absurd h (by simp [namesOf])
theorem names_nil {ts : List Expr} (h : namesOf ts = some []) : ts = [] := by
  cases ts with
  | nil => rfl
  | cons e ts =>
    obtain ⟨_, _, _, _, _, z⟩ := names_cons h
    cases z
end
section
variable {G : Gx} {X : Cx} {k : Nat} {T : TL} {c : Cl} {cal : Nat → List D → Nk.M D} {E0 : XK} {own : Nat → Bool} {a0 : Addr} {M0 : Addr → Prop} {Hi : Hp}
theorem set_one {i : Nat} {d : D} {ρ ρ' : Env} {is : List Nat} {ds : List D} (h : setAll (i :: is) (d :: ds) ρ = some ρ') : i < ρ.length ∧ setAll is ds (ρ.set i (some d)) = some ρ' := by
  have h : (if i < ρ.length then setAll is ds (ρ.set i (some d)) else none) = some ρ' := h
  split at h
  · exact ⟨‹_›, h⟩
  · cases h
theorem L_par {S : Sx} (g : Gd G X k T c cal E0) (dx : Df' X E0) (f : Fit X S own E0) {ts es : List Expr} {is : List Nat} {irs : Es} {kt k2 : Nat} {pt pt2 pos : Pos} (hp : parOk S ts es = true) (ht : tgsOf S ts = some is) (ha : PA X es (tEs T c cal E0 own irs)) (hn : ∀ e ∈ es, noStar e = true) :
    PS X (.Assign [.Tuple ts kt pt] (.Tuple es k2 pt2) pos) (tS T c cal E0 own a0 M0 Hi (.par is irs)) := by
  obtain ⟨xs, h1, h2, h3, h4, h5, h6, h7, h8, h9⟩ := parOk_names hp
  cases xs with
  | nil => exact absurd h2 (by simp)
  | cons x xs =>
  cases xs with
  | nil => exact absurd h2 (by simp)
  | cons y xs =>
  cases ts with
  | nil => cases h1
  | cons e1 ts =>
  obtain ⟨x', px, r1, rfl, n1, q1⟩ := names_cons h1
  cases q1
  cases ts with
  | nil => cases n1
  | cons e2 ts =>
  obtain ⟨y', py, r2, rfl, n2, q2⟩ := names_cons n1
  cases q2
  obtain ⟨_, _, i, js, z1, o1, t1, s1, rfl⟩ := tgs_cons ht
  cases z1
  obtain ⟨_, _, j, js2, z2, o2, t2, s2, rfl⟩ := tgs_cons s1
  cases z2
  have ix := (tgOf_of f t1).1
  have iy := (tgOf_of f t2).1
  have oi : own i = false := by rw [f.own i _ ix]; exact o1
  have oj : own j = false := by rw [f.own j _ iy]; exact o2
  have hxy : x ≠ y := by
    simp only [List.nodup_cons, List.mem_cons, not_or] at h5
    exact h5.1.1
  have hij : i ≠ j := fun z => by
    rw [z, iy] at ix; exact hxy (Option.some.inj ix).symm
  have l6 : S.sc.names.lookup x = some .local ∧ S.sc.names.lookup y = some .local ∧ allLocal S xs = true := by
    simp only [allLocal, Bool.and_eq_true, decide_eq_true_eq] at h6
    exact ⟨h6.1, h6.2.1, h6.2.2⟩
  rw [f.sc] at l6
  have l7 : py.line = px.line ∧ sameLine px.line ts = true := by
    simp only [sameLine, firstLine, Bool.and_eq_true, decide_eq_true_eq, Expr.pos] at h7
    exact ⟨of_decide_eq_true h7.2.1, h7.2.2⟩
  cases xs with
  | nil =>
    cases names_nil n2
    cases s2
    obtain ⟨a, b, rfl⟩ : ∃ a b, es = [a, b] := by
      match es, h4 with
      | [a, b], _ => exact ⟨a, b, rfl⟩
    refine PS.imp (ps_par g.calm g.nd ix iy hij l6.1 l6.2.1 ha (sw2 dx.kind l6.1 l6.2.1 l7.1 hxy (hn a (by simp)) (hn b (by simp)) h8 h9) rfl) ?_
    rintro D σ H ⟨M, st, ρ, s, r⟩
    have r : ResF T c E0 own a0 M0 Hi M H (bnd (evEs cal irs ρ) (fun xs => bnd (ofO (setAll [i, j] xs ρ)) fun ρ' => ret (.nx ρ')) st) D := r
    refine ⟨a0, M, st, ρ, s.hs, s.en, (r.bnd s).mono fun ds H1 st1 x hs1 ⟨s1, r1⟩ vs hv => ?_⟩
    obtain ⟨ρ', e1, r1⟩ := r1.ofO
    have hlen := setAll_len e1
    match ds, hv, hlen, e1 with
    | [d1, d2], .cons q1 (.cons q2 .nil), _, e1 =>
      obtain ⟨b1, e1⟩ := set_one e1
      obtain ⟨b2, e1⟩ := set_one e1
      cases e1
      exact ⟨_, _, rfl, r1.nx M H1 _ (s1.store ((s1.env.set oi q1 b1).set oj q2 b2)) (Later.ext s.hs x)⟩
  | cons z xs =>
  cases ts with
  | nil => cases n2
  | cons e3 ts =>
  obtain ⟨z', pz, r3, rfl, n3, q3⟩ := names_cons n2
  cases q3
  obtain ⟨_, _, l, js3, z3, o3, t3, s3, rfl⟩ := tgs_cons s2
  cases z3
  have iz := (tgOf_of f t3).1
  have ol : own l = false := by rw [f.own l _ iz]; exact o3
  have h5' := h5
  simp only [List.nodup_cons, List.mem_cons, not_or] at h5'
  have hxz : x ≠ z := h5'.1.2.1
  have hyz : y ≠ z := h5'.2.1.1
  have hil : i ≠ l := fun q => by
    rw [q, iz] at ix; exact hxz (Option.some.inj ix).symm
  have hjl : j ≠ l := fun q => by
    rw [q, iz] at iy; exact hyz (Option.some.inj iy).symm
  cases xs with
  | cons w xs => exact absurd h3 (by simp)
  | nil =>
    cases names_nil n3
    cases s3
    have l8 : X.env.scope.names.lookup z = some .local := by
      have := l6.2.2
      simp only [allLocal, Bool.and_eq_true, decide_eq_true_eq] at this
      rw [← f.sc]; exact this.1
    have l9 : pz.line = px.line := by
      have := l7.2
      simp only [sameLine, Bool.and_eq_true, decide_eq_true_eq] at this
      exact this.1
    obtain ⟨a, b, d, rfl⟩ : ∃ a b d, es = [a, b, d] := by
      match es, h4 with
      | [a, b, d], _ => exact ⟨a, b, d, rfl⟩
    refine PS.imp (ps_par3 g.calm g.nd ix iy iz hij hil hjl l6.1 l6.2.1 l8 ha (sw3 dx.kind l6.1 l6.2.1 l8 l7.1 l9 hxy hxz hyz (hn a (by simp)) (hn b (by simp)) (hn d (by simp)) h8 h9) rfl) ?_
    rintro D σ H ⟨M, st, ρ, s, r⟩
    have r : ResF T c E0 own a0 M0 Hi M H (bnd (evEs cal irs ρ) (fun xs => bnd (ofO (setAll [i, j, l] xs ρ)) fun ρ' => ret (.nx ρ')) st) D := r
    refine ⟨a0, M, st, ρ, s.hs, s.en, (r.bnd s).mono fun ds H1 st1 x hs1 ⟨s1, r1⟩ vs hv => ?_⟩
    obtain ⟨ρ', e1, r1⟩ := r1.ofO
    have hlen := setAll_len e1
    match ds, hv, hlen, e1 with
    | [d1, d2, d3], .cons q1 (.cons q2 (.cons q3 .nil)), _, e1 =>
      obtain ⟨b1, e1⟩ := set_one e1
      obtain ⟨b2, e1⟩ := set_one e1
      obtain ⟨b3, e1⟩ := set_one e1
      cases e1
      exact ⟨_, _, _, rfl, r1.nx M H1 _ (s1.store (((s1.env.set oi q1 b1).set oj q2 b2).set ol q3 b3)) (Later.ext s.hs x)⟩
end
end Nk
end
section
set_option Elab.async false
set_option linter.all false
set_option maxRecDepth 100000
set_option maxHeartbeats 1000000
/-! all statements -/
namespace Nk
open PySem PySem.Spec PyProof.Rows L2
section
variable {G : Gx} {X : Cx} {k : Nat} {T : TL} {c : Cl} {cal : Nat → List D → Nk.M D} {E0 : XK} {own : Nat → Bool} {a0 : Addr} {M0 : Addr → Prop} {Hi : Hp}
theorem comp_parts {n : Nat} (ih : Snd G k T c cal own n) {S : Sx} (g : Gd G X k T c cal E0) (f : Fit X S own E0) (hl : S.lam = true → AnsOk G X S k T c cal E0 own) {elt : Expr} {gens : List Comprehension} {scope : Scope} {p : Pos} {ir : E} (h : cE G (n + 1) S (.ListComp elt gens scope p) = some ir) :
    ∃ (tg iter : Expr) (ifs : List Expr) (vs : List (Str × Nat)) (wi : TI) (tgg : TG) (tt : TT) (te : TE), gens = [⟨tg, iter, ifs, 0⟩] ∧ Df' X E0 ∧ PI X tg iter wi ∧ BlkOk X.N X.env.scope scope vs ∧
      (∀ (s : Shared) (H : Hp) (C : Addr) (cl : List (Str × Addr)) (fp : List Addr), PassX X E0 (blkX X s H scope C cl fp) → PG (blkX X s H scope C cl fp) tg tgg) ∧ (∀ (s : Shared) (H : Hp) (C : Addr) (cl : List (Str × Addr)) (fp : List Addr), PassX X E0 (blkX X s H scope C cl fp) → PTs (blkX X s H scope C cl fp) ifs tt) ∧
      (∀ (s : Shared) (H : Hp) (C : Addr) (cl : List (Str × Addr)) (fp : List Addr), PassX X E0 (blkX X s H scope C cl fp) → PE (blkX X s H scope C cl fp) elt te) ∧ (∀ x, foldedSetIterable iter X.env x = pure x) ∧ (∀ σ H Q, tE T c cal E0 own ir σ H Q → tLc wi tgg tt te (vs.map (·.2)) σ H Q) := by
  unfold Nk.cE at h
  split at h
  all_goals try (rename_i hz; cases hz; done)
  all_goals try (rename_i hz _; cases hz; done)
  · rename_i hz1 hz2
    have hq := Nat.succ.inj ‹n + 1 = Nat.succ _›
    subst hq
    cases ‹Expr.ListComp elt gens scope p = _›
    split at h
    · rename_i it t e i h1 h2 h3 h4 h5
      split at h
      · rename_i ho
        cases h
        simp only [Bool.and_eq_true] at h1
        obtain ⟨⟨hc, hb⟩, hno⟩ := h1
        have dx := f.df hc
        obtain ⟨pi, sh⟩ := ih.cIt g f hl h3 ho h2
        have ok := blkOk_by hb
        rw [f.N, f.sc] at ok
        refine ⟨_, _, _, ownOf X.N scope.names, _, tTg own t, _, _, rfl, dx, pi, ok, fun s H C cl fp px => L_tg (own := own) (g.blk px).calm (g.blk px).nd f.blk h3, fun s H C cl fp px => ih.cIfs (g.blk px) f.blk (fun z => by cases z) h5, fun s H C cl fp px => (ih.cE (g.blk px) f.blk (fun z => by cases z) h4).1, shape_set sh X.env, ?_⟩
        rw [← f.N]
        refine lc_read (cTg_own h3) fun i hi => ?_
        have hm := cTg_own h3 i hi
        obtain ⟨pr, hp, rfl⟩ := List.mem_map.mp hm
        have hpo := List.all_eq_true.mp hno pr hp
        have hx := (blkOk_by hb).ix pr hp
        rw [f.N] at hx
        rw [f.own _ _ hx]
        simpa using hpo
      · cases h
    · cases h
  · cases h
theorem L_asg {n : Nat} {S : Sx} (g : Gd G X k T c cal E0) (f : Fit X S own E0) (hl : S.lam = true → AnsOk G X S k T c cal E0 own) {x : Str} {i : Nat} {e : Expr} {ie : E} {px pos : Pos} (hx : tgOf S x = some i) (hS : S.own.contains x = false) (h : cE G n S e = some ie) : PS X (.Assign [.Name x px] e pos) (tS T c cal E0 own a0 M0 Hi (.asg i ie)) := by
  obtain ⟨h1, h2, h3⟩ := tgOf_of f hx
  have ho : own i = false := by rw [f.own i x h1]; exact hS
  have plain : swapsWith e (some (.Name x px)) pos.line X.env = pure false → PS X (.Assign [.Name x px] e pos) (tS T c cal E0 own a0 M0 Hi (.asg i ie)) := fun hsw =>
    PS.imp (ps_set g.nd h1 h2 ((snd_all n).cE g f hl h).1 hsw h3) (tAsg_of ho fun _ _ _ q => q)
  cases n with
  | zero => simp [Nk.cE] at h
  | succ n =>
    cases e with
    | ListComp elt gens scope p =>
      cases hb : (X.env.blockKind == .function && X.env.kindOf x == some .local && px.line == p.line && !(scope.names.any fun (n, k) => n == x && (k == .local || k == .cell))) with
      | false => exact plain (by show (pure _ : Sem Bool) = _; exact congrArg pure hb)
      | true =>
        have hsw : swapsWith (.ListComp elt gens scope p) (some (.Name x px)) pos.line X.env = pure true := by show (pure _ : Sem Bool) = _; exact congrArg pure hb
        have hyl : X.env.scope.names.lookup x = some .local := by
          simp only [Bool.and_eq_true, beq_iff_eq] at hb
          exact hb.1.1.2
        obtain ⟨tg, iter, ifs, vs, wi, tgg, tt, te, rfl, dx, pi, ok, hg, ht, he, hs, hr⟩ := comp_parts (snd_all n) g f hl h
        exact PS.imp (ps_setLcX dx g.calm g.nd h1 hyl hsw pi ok hg ht he hs) (tAsg_of ho hr)
    | SetComp _ _ _ _ => simp [Nk.cE] at h
    | DictComp _ _ _ _ _ => simp [Nk.cE] at h
    | _ => exact plain rfl
variable (G X T c cal E0 own a0 M0 Hi) in
structure SndS (S : Sx) (n : Nat) : Prop where
  cS : ∀ {s : Stmt} {ir : Nk.S}, cS G n S s = some ir → PS X s (tS T c cal E0 own a0 M0 Hi ir)
  cSs : ∀ {s : List Stmt} {ir : Ss}, cSs G n S s = some ir → PSs X s (tSs T c cal E0 own a0 M0 Hi ir)
theorem tgs_own2 {S : Sx} (f : Fit X S own E0) : ∀ {ts : List Expr} {is : List Nat}, tgsOf S ts = some is → ∀ i ∈ is, own i = false := by
  intro ts
  induction ts with
  | nil => intro is h i hi; cases h; cases hi
  | cons e ts ih =>
    intro is h i hi
    obtain ⟨x, p, j, js, rfl, h1, h2, h3, rfl⟩ := tgs_cons h
    rcases List.mem_cons.mp hi with rfl | hi
    · rw [f.own _ x (tgOf_of f h2).1]; exact h1
    · exact ih h3 i hi
theorem cTg_own2 {S : Sx} (f : Fit X S own E0) {tg : Expr} {t : Tg} (h : cTg S tg = some t) : ∀ i ∈ t.ixs, own i = false := by
  unfold cTg at h
  split at h
  · split at h
    · rename_i h1 h2
      cases h
      intro i hi
      rw [nm_mem hi, f.own _ _ (tgOf_of f h2).1]; exact h1
    · cases h
  · obtain ⟨is, h1, rfl⟩ := Option.map_eq_some_iff.mp h
    exact tgs_own2 f h1
  · cases h
theorem sndS_S {n : Nat} {S : Sx} (g : Gd G X k T c cal E0) (dx : Df' X E0) (f : Fit X S own E0) (hl : S.lam = true → AnsOk G X S k T c cal E0 own) (ra : RaOk X S c E0) (ih : SndS G X T c cal E0 own a0 M0 Hi S n) {s : Stmt} {ir : Nk.S} (h : cS G (n + 1) S s = some ir) : PS X s (tS T c cal E0 own a0 M0 Hi ir) := by
  unfold Nk.cS at h
  split at h
  all_goals try (have hq := Nat.succ.inj ‹n + 1 = Nat.succ _›; subst hq)
  · cases h
  · split at h
    · rename_i i h1 h2
      obtain ⟨ie, h3, rfl⟩ := Option.map_eq_some_iff.mp h
      exact L_asg g f hl h2 h1 h3
    · rename_i i h1 h2
      split at h
      · cases h
        exact L_new g f h2 h1
      · cases h
    · cases h
  · split at h
    · rename_i is irs h1 h2 h3
      cases h
      obtain ⟨a1, a2, a3⟩ := (snd_all _).cEs g f hl h3
      exact L_par g dx f h1 h2 a1 a2
    · cases h
  · split at h
    · rename_i is ie h1 h2 h3
      cases h
      exact L_asgT g f h2 h1 ((snd_all _).cE g f hl h3).1
    · cases h
  · obtain ⟨ie, h3, rfl⟩ := Option.map_eq_some_iff.mp h
    exact L_rtn ((snd_all _).cE g f hl h3).1
  · split at h
    · rename_i ie ia ib h1 h2 h3
      cases h
      exact L_ifS ((snd_all _).cE g f hl h1).2 (ih.cSs h2) (ih.cSs h3)
    · cases h
  · split at h
    · rename_i t it ib h1 h2 h3
      split at h
      · rename_i ho
        cases h
        obtain ⟨pi, sh⟩ := (snd_all _).cIt g f hl h1 ho h2
        exact L_for g dx pi (L_tg g.calm g.nd f h1) (cTg_own2 f h1) (ih.cSs h3) sh
      · cases h
    · cases h
  · split at h
    · rename_i ie ib h1 h2
      cases h
      exact L_whl dx ((snd_all _).cE g f hl h1).2 (ih.cSs h2)
    · cases h
  · split at h
    · rename_i i ie h1 h2 h3
      cases h
      simp only [Bool.and_eq_true, decide_eq_true_eq] at h1
      obtain ⟨⟨h1, rfl⟩, h4⟩ := h1
      exact L_app g f h2 h1 h4 ((snd_all _).cE g f hl h3).1 (cE_shape h3)
    · cases h
  · obtain ⟨ie, h3, rfl⟩ := Option.map_eq_some_iff.mp h
    exact L_exp ((snd_all _).cE g f hl h3).1 rfl
  · split at h
    · rename_i xc h1 h2
      cases h
      exact L_raise ra h1 h2
    · cases h
  · split at h
    · rename_i ie h1 h2
      cases h
      simp only [Bool.and_eq_true, decide_eq_true_eq] at h1
      obtain ⟨⟨h1, rfl⟩, hrm⟩ := h1
      exact L_raiseM ra hrm h1 ((snd_all _).cE g f hl h2).1 (cE_shape h2)
    · cases h
  · cases h
theorem sndS_all {S : Sx} (g : Gd G X k T c cal E0) (dx : Df' X E0) (f : Fit X S own E0) (hl : S.lam = true → AnsOk G X S k T c cal E0 own) (ra : RaOk X S c E0) : ∀ n, SndS G X T c cal E0 own a0 M0 Hi S n
  | 0 => ⟨by intros; rename_i h; simp [Nk.cS] at h, by intros; rename_i h; simp [Nk.cSs] at h⟩
  | n + 1 => ⟨sndS_S g dx f hl ra (sndS_all g dx f hl ra n), fun {s ir} h => by
    cases s with
    | nil =>
      have h : some Ss.nil = some ir := h
      cases h
      exact L_ssNil
    | cons s ss =>
      unfold Nk.cSs at h
      split at h
      · rename_i i1 i2 h1 h2
        cases h
        exact L_ssCons ((sndS_all g dx f hl ra n).cS h1) ((sndS_all g dx f hl ra n).cSs h2)
      · cases h⟩
end
end Nk
end
section
set_option Elab.async false
set_option linter.all false
set_option maxRecDepth 100000
set_option maxHeartbeats 1000000
/-! all defs -/
namespace Nk
open PySem PySem.Spec PyProof.Rows L2
/-- a def's scope and names fit (checked by computing) -/
def Dd.okB (d : Dd) : Bool :=
  let sc := defScope (topS d.at_)
  decide (sc.kind = .function) && !sc.isCoroutine && !sc.isGenerator && decide d.N.Nodup && decide (d.N.take d.pars.length = d.pars) && (d.pars.all fun x => decide (sc.names.lookup x = some .local) || decide (sc.names.lookup x = some .cell)) && (sc.names.all fun y => !decide (y.2 = .free)) &&
    (d.pars.all fun x => !d.own.contains x)
def Dd.ownF (d : Dd) (i : Nat) : Bool := match d.N[i]? with
  | some x => d.own.contains x
  | none => false
theorem Dd.scope {d : Dd} (h : d.okB = true) : FnScope d.N d.pars (defScope (topS d.at_)) ∧ ∀ x ∈ d.pars, d.own.contains x = false := by
  unfold Dd.okB at h
  simp only [Bool.and_eq_true, Bool.not_eq_true', decide_eq_true_eq, List.all_eq_true, Bool.or_eq_true, decide_eq_false_iff_not] at h
  obtain ⟨⟨⟨⟨⟨⟨⟨h1, h2⟩, h3⟩, h4⟩, h5⟩, h6⟩, h7⟩, h8⟩ := h
  exact ⟨⟨h1, h2, h3, h4, h5, h6, h7⟩, h8⟩
theorem Dd.pars_le {d : Dd} (S : FnScope d.N d.pars (defScope (topS d.at_))) : d.pars.length ≤ d.N.length := by
  have := congrArg List.length S.pre
  rw [List.length_take] at this
  omega
/-- the environment at a def's entry -/
def env0 (n : Nat) (ds : List D) : Env := ds.map some ++ List.replicate (n - ds.length) none
section
variable {T : TL} {c : Cl} {own : Nat → Bool} {a0 : Addr} {M : Addr → Prop} {H : Hp} {st : Sr}
theorem stt_start {N : List Str} {vs : List V} {ds : List D} (hs : Hs a0 M T H st) (r : Reps a0 M H vs ds) (hl : vs.length ≤ N.length) (ho : ∀ i, i < vs.length → own i = false) : Stt T own a0 M H M H st (L2.start N vs) (env0 N.length ds) := by
  have hlen := r.length
  have get : ∀ i d, (env0 N.length ds)[i]? = some (some d) → i < ds.length ∧ ds[i]? = some d := fun i d h => by
    unfold env0 at h
    by_cases hi : i < ds.length
    · rw [List.getElem?_append_left (by simpa using hi), List.getElem?_map] at h
      refine ⟨hi, ?_⟩
      cases e : ds[i]? with
      | none => rw [e] at h; cases h
      | some a => rw [e] at h; cases h; rfl
    · rw [List.getElem?_append_right (by simpa using hi), List.getElem?_replicate] at h
      split at h <;> cases h
  refine ⟨hs, ⟨hs.m0, ?_, fun i d hd => ?_, fun i j a h1 h2 hij hsi hi hj => ?_⟩, Ext.refl, Later.refl⟩
  · unfold L2.start env0
    simp [hlen]
  · obtain ⟨hi, e⟩ := get i d hd
    obtain ⟨v, hv, hr⟩ := r.get e
    have hi' : i < vs.length := by omega
    refine ⟨v, ?_, ?_⟩
    · unfold L2.start
      rw [List.getElem?_append_left (by simpa using hi'), List.getElem?_map, hv]; rfl
    · rw [ho i hi']; exact hr
  · exfalso
    cases e : (env0 N.length ds)[i]? with
    | none => rw [e] at hi; exact hi rfl
    | some o => cases o with
      | none => rw [e] at hi; exact hi rfl
      | some d =>
        obtain ⟨hl', _⟩ := get i d e
        have hi' : i < vs.length := by omega
        rw [ho i hi'] at h1; cases h1
/-- a body's end -/
theorem resF_body {E0 : XK} {cal : Nat → List D → Nk.M D} {b : Ss} {n : Nat} {ds : List D} {Q : VK} (r : Res T c E0 a0 M H (runB cal n b ds st) fun d H' _ => ∀ v, Rep a0 M H' v d → Q v H') : ResF T c E0 own a0 M H M H (evSs cal b (env0 n ds) st) { nx := fun _ H' => Q .non H', rt := Q } := by
  have r : Res T c E0 a0 M H (bnd (evSs cal b (env0 n ds)) (fun fl => match fl with | .nx _ => ret .non | .rt d => ret d) st) _ := r
  unfold Nk.bnd at r
  cases e : evSs cal b (env0 n ds) st with
  | ok fl st1 =>
    rw [e] at r
    cases fl with
    | nx ρ' => exact fun M' H' σ' s l => r H' s.ext (s.hs.weak s.env.m00 s.lat.sub) _ .non
    | rt d => exact fun v H' x hs hv => r H' x hs v hv
  | err x st1 => rw [e] at r; exact r
  | stuck => rw [e] at r; exact r
end
/-- what is told of the written part -/
structure Wd (P : Program) (w : World) (K : PySem.W.Frag) (mg : Str → Option Value) : Prop where
  fns : ∀ (i : Nat) (d : Dd), dds[i]? = some d → ∃ fa fd, mg d.name = some (.ref fa) ∧ Fun K d.name d.name (topS d.at_) fa fd ∧ Binds K fd d.pars []
  consts : ∀ x i, gx.gc x = some i → ∃ t, mg x = some (.int i t)
  free : ∀ x ∈ builtinNames, mg x = none
theorem okAll : dds.all Dd.okB = true := by kernel_rfl
theorem ok_of {i : Nat} {d : Dd} (h : dds[i]? = some d) : d.okB = true := List.all_eq_true.mp okAll d (List.mem_of_getElem? h)
theorem findIx_fn {x : Str} {i : Nat} (h : gx.fid x = some i) : ∃ d, dds[i]? = some d ∧ d.name = x := by
  have h1 : fnames[i]? = some x := findIx_get h
  have e : fnames = dds.map Dd.name := by kernel_rfl
  rw [e, List.getElem?_map] at h1
  obtain ⟨d, h2, h3⟩ := Option.map_eq_some_iff.mp h1
  exact ⟨d, h2, h3⟩
theorem tag_str : ∀ x t, gx.tag x = some t → t.toStr = x := fun x t h => by
  have h : (findIx tagNames x).bind (fun i => allTags[i]?) = some t := h
  obtain ⟨i, h1, h2⟩ := Option.bind_eq_some_iff.mp h
  have h3 := findIx_get h1
  have e : tagNames = allTags.map Tag.toStr := rfl
  rw [e, List.getElem?_map, h2] at h3
  exact (Option.some.inj h3)
section
variable {P : Program} {w : World} {K : PySem.W.Frag} {mg : Str → Option Value} {base : Heap} {T : TL} {c : Cl}
theorem okN {CXX : CXT} {x qu : Str} {sm : Stmt} {fa : Addr} {fdd : FuncData} {NN pp : List Str} {lev : Nat} {spp : Sp} (F : Fun K x qu sm fa fdd) (S : FnScope NN pp (defScope sm)) (len : ∀ vs H Q E, spp vs H Q E → vs.length = pp.length)
    (bod : ∀ (cdv : Value) (A : Around) (outer : List PySem.Env) (s : Shared) (H : Hp) (vs : List V) (Q : VK) (E : XK), Room lev (A.deeper (envOfC qu (defScope sm) s.heap.objs.size fa cdv)) → spp vs H Q E →
      ∃ t, PSs (cxOf CXX P w K mg base NN qu (defScope sm) fa cdv A outer s H E) (defBody sm) t ∧ t { nx := fun _ H' => Q .non H', rt := Q } (L2.start NN vs) H) : FnOk P w K mg base CXX (lev + 1) fa fdd pp spp := by
  obtain ⟨_, _, _, _, _, _, _, _, _, rfl, look, code⟩ := F.ex
  exact fn_of look code S len fun A outer s H vs Q E hr hsp => bod _ A outer s H vs Q E hr hsp
/-- one def's promise at a level -/
def OkAt (P : Program) (w : World) (K : PySem.W.Frag) (mg : Str → Option Value) (base : Heap) (T : TL) (c : Cl) (tab : Nat → Option Df) (k : Nat) : Prop := ∀ (i : Nat) (d : Dd), dds[i]? = some d → ∃ fa fd, mg d.name = some (.ref fa) ∧ PySem.W.keepIn K (.ref fa) = true ∧ Binds K fd d.pars [] ∧ FnOk P w K mg base (L2N.CX P w) k fa fd d.pars (spD T c (callK tab k) i d.pars.length) ∧ ∀ ds st, callK tab k i ds st ≠ .stuck → ds.length = d.pars.length
theorem gd_of (wd : Wd P w K mg) {tab : Nat → Option Df} {k : Nat} (ih : OkAt P w K mg base T c tab k) {X : Cx} {E : XK} (e1 : X.prog = P) (e2 : X.w = w) (e3 : X.K = K) (e4 : X.mg = mg) (e5 : X.base = base) (hc : X.calm = true) (hN : X.N.Nodup) (hr : Room k X.A) (px : Passes (L2N.CX X.prog X.w) X E) : Gd gx X k T c (callK tab k) E := by
  subst e1 e2 e3 e4 e5
  refine ⟨hc, hN, hr, px, fun x i h => ?_, wd.consts, wd.free, tag_str⟩
  obtain ⟨d, h1, rfl⟩ := findIx_fn h
  obtain ⟨fa, fd, a1, a2, a3, a4, a5⟩ := ih i d h1
  exact ⟨fa, fd, d.pars, a1, a2, a3, a5, a4⟩
/-- the bodies' table -/
structure TabOk (tab : Nat → Option Df) : Prop where
  some : ∀ (i : Nat) (d : Dd), dds[i]? = some d → ∀ g, tab i = some (.fn g) → g.slots = d.N.length ∧ g.pars = d.pars.length ∧ d.body = some g.body ∧ g.drop = d.drop
/-- what a def with lambdas needs -/
def AnsAll (P : Program) (w : World) (K : PySem.W.Frag) (mg : Str → Option Value) (base : Heap) (T : TL) (c : Cl) : Prop := ∀ (i : Nat) (d : Dd), dds[i]? = some d → d.lam = true → ∀ (f : Addr) (cdv : Value) (A : Around) (outer : List PySem.Env) (s : Shared) (H : Hp) (E : XK) (k : Nat) (cal : Nat → List D → Nk.M D),
  mg d.name = some (.ref f) → PySem.W.codeIn K cdv d.name = true → (∃ oc od fdd osl, K.lookup f = some ⟨oc, od, .func fdd, osl⟩ ∧ fdd.code = cdv) → Room (k + 2) (cxOf (L2N.CX P w) P w K mg base d.N d.name (defScope (topS d.at_)) f cdv A outer s H E).A →
  (∀ (Y : Cx) (E1 : XK), Y.prog = P → Y.w = w → Y.K = K → Y.mg = mg → Y.base = base → Y.calm = true → Y.N.Nodup → Room k Y.A → Passes (L2N.CX Y.prog Y.w) Y E1 → Gd gx Y k T c cal E1) →
  AnsOk gx (cxOf (L2N.CX P w) P w K mg base d.N d.name (defScope (topS d.at_)) f cdv A outer s H E) (sxOf d.N d.own d.lam d.drop (topS d.at_)) k T c cal E d.ownF
def RaAll (P : Program) (w : World) (K : PySem.W.Frag) (mg : Str → Option Value) (base : Heap) (c : Cl) : Prop := ∀ (X : Cx) (S : Sx) (E : XK), X.prog = P → X.w = w → X.K = K → X.mg = mg → X.base = base → X.calm = true → S.sc = X.env.scope → (L2N.Takes X fun cls d _ H => E cls d H) → (S.rm = true → Room 2 X.A) → RaOk X S c E
def PrimAll (P : Program) (w : World) (K : PySem.W.Frag) (mg : Str → Option Value) (base : Heap) (T : TL) (c : Cl) (tab : Nat → Option Df) : Prop := ∀ (i : Nat) (d : Dd) (p : List D → Nk.M D), dds[i]? = some d → tab i = some (.prim p) → (∀ ds st, p ds st ≠ .stuck → ds.length = d.pars.length) ∧ ∀ k fa fd, mg d.name = some (.ref fa) → Fun K d.name d.name (topS d.at_) fa fd → Binds K fd d.pars [] → FnOk P w K mg base (L2N.CX P w) (k + 1) fa fd d.pars (spD T c (fun _ => p) 0 d.pars.length)
theorem fn_stuck {fa : Addr} {fd : FuncData} {ps : List Str} {k i : Nat} {cal : Nat → List D → Nk.M D} (h : ∀ ds st, cal i ds st = .stuck) : FnOk P w K mg base (L2N.CX P w) k fa fd ps (spD T c cal i ps.length) := by
  have no : ∀ vs H Q E, ¬ spD T c cal i ps.length vs H Q E := fun vs H Q E ⟨_, a0, M, st, ds, _, _, r⟩ => by rw [h] at r; exact r
  exact ⟨fun vs H Q E q => (no vs H Q E q).elim, fun A outer s H args us vs Q E _ _ _ _ q => (no vs H Q E q).elim⟩
/-- a def by its body, its callees at level j -/
theorem fn_body (wd : Wd P w K mg) (ra : RaAll P w K mg base c) (an : AnsAll P w K mg base T c) {tab : Nat → Option Df} {k j i : Nat} {d : Dd} (hd : dds[i]? = some d) (ihj : OkAt P w K mg base T c tab j) (hj : j ≤ k) (hj2 : d.drop = true → j + 2 ≤ k) {fa : Addr} {fd : FuncData} (hm : mg d.name = some (.ref fa)) (F : Fun K d.name d.name (topS d.at_) fa fd) {b : Ss} (hb : d.body = some b) {cal : Nat → List D → Nk.M D}
    (hcal : ∀ ds st, cal i ds st ≠ .stuck → ds.length = d.pars.length ∧ cal i ds st = runB (callK tab j) d.N.length b ds st) : FnOk P w K mg base (L2N.CX P w) (k + 1) fa fd d.pars (spD T c cal i d.pars.length) := by
  obtain ⟨S, hown⟩ := Dd.scope (ok_of hd)
  obtain ⟨oc, od, kV, doc, pm, an', cdv, ct, osl, rfl, lk, hcd⟩ := F.ex
  refine fn_of lk hcd S (fun vs H Q E q => q.1) fun A outer s H vs Q E hr hsp => ?_
  obtain ⟨hlen, a0, M, st, ds, hs, r, q⟩ := hsp
  have hns : cal i ds st ≠ .stuck := fun e => by rw [e] at q; exact q
  obtain ⟨hdl, hrun⟩ := hcal ds st hns
  rw [hrun] at q
  let X := cxOf (L2N.CX P w) P w K mg base d.N d.name (defScope (topS d.at_)) fa cdv A outer s H E
  have tk : L2N.Takes X fun cls d _ H => E cls d H := L2N.takes_of (X := X) rfl rfl rfl rfl
  have g : Gd gx X j T c (callK tab j) E := gd_of wd ihj rfl rfl rfl rfl rfl rfl S.nd (hr.mono hj) (L2N.passes_call tk fun _ _ _ _ h => h)
  have dx : Df' X E := ⟨rfl, rfl, tk, passes_of rfl, S.kind⟩
  have ft : Fit X (sxOf d.N d.own d.lam d.drop (topS d.at_)) d.ownF E := ⟨rfl, rfl, fun i x hx => by
    have hx : d.N[i]? = some x := hx
    unfold Dd.ownF; rw [hx]; rfl, fun _ _ => rfl, fun _ => dx⟩
  have hl : (sxOf d.N d.own d.lam d.drop (topS d.at_)).lam = true → AnsOk gx X (sxOf d.N d.own d.lam d.drop (topS d.at_)) j T c (callK tab j) E d.ownF := fun hlam =>
    an i d hd hlam fa cdv A outer s H E j (callK tab j) hm hcd ⟨_, _, _, _, lk, rfl⟩ (hr.mono (hj2 (by have hlam : d.lam = true := hlam; unfold Dd.drop; rw [hlam]; rfl))) fun Y E1 e1 e2 e3 e4 e5 e6 e7 e8 e9 => gd_of wd ihj e1 e2 e3 e4 e5 e6 e7 e8 e9
  have ro : RaOk X (sxOf d.N d.own d.lam d.drop (topS d.at_)) c E := ra X _ E rfl rfl rfl rfl rfl rfl rfl tk fun hrm => hr.mono (by have := hj2 hrm; omega)
  refine ⟨_, (sndS_all (a0 := a0) (M0 := M) (Hi := H) g dx ft hl ro 100).cSs hb, M, st, env0 d.N.length ds, ?_, resF_body q⟩
  refine stt_start hs r (by rw [hlen]; exact Dd.pars_le S) fun i hi => ?_
  have hi' : i < d.pars.length := by rw [← hlen]; exact hi
  have hp : d.N[i]? = some d.pars[i] := by
    have e : (d.N.take d.pars.length)[i]? = d.pars[i]? := by rw [S.pre]
    rw [List.getElem?_take_of_lt hi', List.getElem?_eq_getElem hi'] at e
    exact e
  unfold Dd.ownF
  rw [hp]
  exact hown _ (List.getElem_mem hi')
theorem all_ok (wd : Wd P w K mg) (ra : RaAll P w K mg base c) (an : AnsAll P w K mg base T c) {tab : Nat → Option Df} (tb : TabOk tab) (pr : PrimAll P w K mg base T c tab) : ∀ k, OkAt P w K mg base T c tab k := by
  intro k
  induction k using Nat.strongRecOn with
  | _ k ih =>
  intro i d hd
  obtain ⟨fa, fd, hm, F, hb⟩ := wd.fns i d hd
  refine ⟨fa, fd, hm, F.kp, hb, ?_⟩
  cases k with
  | zero => exact ⟨fn_stuck fun _ _ => rfl, fun ds st h => absurd rfl h⟩
  | succ k =>
    cases ht : tab i with
    | none =>
      have e : ∀ ds st, callK tab (k + 1) i ds st = .stuck := fun ds st => by
        unfold callK; rw [ht]; rfl
      exact ⟨fn_stuck e, fun ds st h => absurd (e ds st) h⟩
    | some df =>
      cases df with
      | prim p =>
        have e : callK tab (k + 1) i = p := by
          funext ds
          conv => lhs; unfold callK
          rw [ht]
        obtain ⟨p1, p2⟩ := pr i d p hd ht
        refine ⟨?_, fun ds st h => p1 ds st (by rw [← e]; exact h)⟩
        have := p2 k fa fd hm F hb
        refine FnOk.imp this fun vs H Q E ⟨l, a0, M, st, ds, hs, r, q⟩ => ⟨l, a0, M, st, ds, hs, r, ?_⟩
        rw [e] at q
        exact q
      | fn g =>
        obtain ⟨s1, s2, s3, s4⟩ := tb.some i d hd g ht
        have e : ∀ ds, callK tab (k + 1) i ds = if ds.length = g.pars then (match g.drop with
            | false => runB (callK tab k) g.slots g.body ds
            | true => match k with
              | j + 2 => runB (callK tab j) g.slots g.body ds
              | _ => stk) else stk := fun ds => by
          conv => lhs; unfold callK
          rw [ht]
          cases k with
          | zero => rfl
          | succ k => cases k <;> rfl
        cases hdr : g.drop with
        | false =>
          rw [hdr] at e s4
          have e : ∀ ds, callK tab (k + 1) i ds = if ds.length = g.pars then runB (callK tab k) g.slots g.body ds else stk := e
          refine ⟨fn_body wd ra an hd (ih k (Nat.lt_succ_self k)) (Nat.le_refl k) (fun z => by rw [z] at s4; cases s4) hm F s3 (fun ds st h => ?_), fun ds st h => ?_⟩
          · rw [e] at h ⊢
            by_cases hl : ds.length = g.pars
            · rw [if_pos hl, s1]; exact ⟨hl.trans s2, rfl⟩
            · rw [if_neg hl] at h; exact absurd rfl h
          · rw [e] at h
            by_cases hl : ds.length = g.pars
            · exact hl.trans s2
            · rw [if_neg hl] at h; exact absurd rfl h
        | true =>
          rw [hdr] at e
          match k, ih, e with
          | j + 2, ih, e =>
            have e : ∀ ds, callK tab (j + 2 + 1) i ds = if ds.length = g.pars then runB (callK tab j) g.slots g.body ds else stk := e
            refine ⟨fn_body wd ra an hd (ih j (by omega)) (by omega) (fun _ => by omega) hm F s3 (fun ds st h => ?_), fun ds st h => ?_⟩
            · rw [e] at h ⊢
              by_cases hl : ds.length = g.pars
              · rw [if_pos hl, s1]; exact ⟨hl.trans s2, rfl⟩
              · rw [if_neg hl] at h; exact absurd rfl h
            · rw [e] at h
              by_cases hl : ds.length = g.pars
              · exact hl.trans s2
              · rw [if_neg hl] at h; exact absurd rfl h
          | 0, ih, e =>
            have e : ∀ ds, callK tab (0 + 1) i ds = if ds.length = g.pars then stk else stk := e
            have e' : ∀ ds st, callK tab (0 + 1) i ds st = .stuck := fun ds st => by rw [e]; split <;> rfl
            exact ⟨fn_stuck e', fun ds st h => absurd (e' ds st) h⟩
          | 1, ih, e =>
            have e : ∀ ds, callK tab (1 + 1) i ds = if ds.length = g.pars then stk else stk := e
            have e' : ∀ ds st, callK tab (1 + 1) i ds st = .stuck := fun ds st => by rw [e]; split <;> rfl
            exact ⟨fn_stuck e', fun ds st h => absurd (e' ds st) h⟩
end
end Nk
end
section
set_option Elab.async false
set_option linter.all false
set_option maxRecDepth 100000
set_option maxHeartbeats 1000000
/-! an exception that is made with a limit -/
namespace Nk
open PySem PySem.Spec PyProof.Rows L2 NdefX
/-- what is told of the class -/
structure TmF (P : Program) (K : PySem.W.Frag) (C fI cc cda : Addr) : Prop where
  T : OexC K C
  ex : PySem.W.excInitIn K C [.type "ValueError", .type "Exception", .type "BaseException", .type "object"] "ValueError.__new__" = true
  iC : PySem.W.findIn K (.ref C) "__init__" = some (some (.ref fI))
  tI : PySem.W.typeIn K (.ref fI) = some (.type "function")
  fn : ∃ (oc : Value) (od : Option Addr) (dV kV doc pm : Value) (an : Option Addr) (ct : Value) (osl : Array (Option Value)), K.lookup fI = some ⟨oc, od, .func (PySem.W.fnX "__init__" "TooMany.__init__" (defArgs tmI) (defBody tmI) (defScope tmI) [("__class__", cc)] .none kV doc pm an (.ref cda) ct), osl⟩
  cd : PySem.W.codeIn K (.ref cda) "TooMany.__init__" = true
  cell : ∃ (cl : Value) (cld : Option Addr) (csl : Array (Option Value)), K.lookup cc = some ⟨cl, cld, .cell (some (.ref C)), csl⟩
  code : ∃ (ccl : Value) (cdd : Option Addr) (vs : Array Value) (ccs : Array (Option Value)) (file : Str) (tf : Tok), K.lookup cda = some ⟨ccl, cdd, .fields vs, ccs⟩ ∧ vs[2]? = some (.str file tf) ∧ ((P.main.file : Str) == file) = true
  mro : PySem.W.mroIn K C (.ref C) = some true
  sup : PySem.W.ks_superIn K C C "__init__" = some (some (.builtin "ValueError.__init__"))
  sub : PySem.W.subIn K (.ref C) (.type "ValueError") = some true
  stat : PySem.W.nsIn K cStatics "thirdparty.any" = some none
  nolim : PySem.W.findIn K (.ref C) "limit" = some none
  top : (P.main.scope.names.lookup ("super" : Str)).isSome = false
section
variable {prog : Program} {w : World} {A : Around} {E : Value → Shared → Prop} {h : Heap} {g : Array GenState} {d : Drawn} {t : Nat} {os : OsState}
/-- the bound method-wrapper, called -/
theorem call_mw {i newId : String} {bmB : List Value} {K : PySem.W.Frag} {C u x t0 : Addr} {dv : Option Addr} {rest : List Value} {Q : Value → Shared → Prop} (X : K.In h) (FB : ExcBaseFacts "ValueError" newId i bmB) (q : PySem.W.excInitIn K C bmB newId = true)
    (hu : h.get? u = some (PySem.W.kxs_mw i x)) (he : h.get? x = some (PySem.W.excObj C t0 dv .none)) (hz : rest.length ≤ sizeLine)
    (hq : ∀ h' t1, (∀ b o, b ≠ x → h.get? b = some o → h'.get? b = some o) → h'.get? x = some (PySem.W.excObj C t1 dv .none) → Q .none ⟨h', g, d, t, os⟩) :
    wpAny (model prog w) A (call (.ref u) rest) Q E ⟨h, g, d, t, os⟩ := by
  obtain ⟨nm, N', qn, bs, bm, hdct, sn, sub, ab, col, dd, k0, k1, k2, k3, k5, hC, hT⟩ := PySem.W.excInit_of X q
  refine wpAny_call (codeAny_of_tree ?_)
  show wpAny _ A.in1 (callAny (.ref u) ⟨rest, []⟩) _ _ _
  simp only [callAny]
  refine wpAny_bind (wpAny_load hu ?_)
  simp only [PySem.W.kxs_mw, show (Value.type "method-wrapper" == Value.type "method" || Value.type "method-wrapper" == Value.type "builtin_function_or_method" || Value.type "method-wrapper" == Value.type "method-wrapper") = true by decide, if_true]
  refine PySem.W.KFB.if_so (by decide) ?_
  refine wpAny_bind (PySem.W.check_bound_init FB.toExcCallFacts hC he rfl ?_)
  refine wpAny_bind (wpAny_pure (wpAny_pure ?_))
  refine ⟨plainId_quiet FB.init.plain _, codeAny_builtin FB.initEntry ?_⟩
  exact PySem.W.exc_init_tree (cls := .ref C) (t0 := t0) (dv := dv) (c2 := .none) (c3 := .none) (b4 := .bool false) he hz fun h' k e' _ => hq h' _ k e'
end
def tmN : List Str := ["self", "limit", "__class__"]
theorem tm_scope : NScope tmN ["self", "limit"] ["__class__"] (defScope tmI) := nscope_by (by kernel_rfl)
abbrev tmCall (p0 p1 p2 p3 p4 p5 p6 p7 p8 : Pos) (j : Nat) : Expr := .Call (.Attribute (.Call (.Name "super" p0) [] [] p1) "__init__" p2) [.BinOp (.Constant (.str "more than ") j p3) .Add (.Call (.Name "str" p4) [.Name "limit" p5] [] p6) p7] [] p8
theorem tm_body : ∃ (p0 p1 p2 p3 p4 p5 p6 p7 p8 p9 q1 q2 q3 q4 : Pos) (j : Nat) (pl : Sem Bool), defBody tmI = [.Expr (tmCall p0 p1 p2 p3 p4 p5 p6 p7 p8 j) p9, .Assign [.Attribute (.Name "self" q1) "limit" q2] (.Name "limit" q3) q4] ∧
    ∀ env : PySem.Env, eval (tmCall p0 p1 p2 p3 p4 p5 p6 p7 p8 j) env = (do
      let ov ← attributeBase (.Call (.Name "super" p0) [] [] p1) "__init__" env (eval (.Call (.Name "super" p0) [] [] p1) env)
      standAt p2.atName
      let (f, first) ← holding [ov] (getMethod ov "__init__" pl)
      callWith p8 f first (backTo p8 (starEach [.BinOp (.Constant (.str "more than ") j p3) .Add (.Call (.Name "str" p4) [.Name "limit" p5] [] p6) p7] env)) []) := ⟨_, _, _, _, _, _, _, _, _, _, _, _, _, _, _, _, rfl, fun env => rfl⟩
theorem tm_args : ∃ a b, ((defArgs tmI).posonlyargs ++ (defArgs tmI).args) = [a, b] ∧ a.arg = "self" := ⟨_, _, rfl, rfl⟩
theorem tm_names : (defScope tmI).names.lookup ("super" : Str) = some .globalImplicit ∧ (defScope tmI).names.lookup ("str" : Str) = some .globalImplicit ∧ (defScope tmI).names.lookup ("__class__" : Str) = some .free ∧ (defScope tmI).names.lookup ("self" : Str) = some .local ∧ (defScope tmI).names.lookup ("limit" : Str) = some .local := ⟨by kernel_rfl, by kernel_rfl, by kernel_rfl, by kernel_rfl, by kernel_rfl⟩
def spTm (C : Addr) : Sp := fun vs H Q E => ∃ a i, vs = [.ref a, .int i] ∧ okLim i = true ∧ H a = some (exo a C none) ∧ ∀ dx, H dx = none → dx ≠ a → Q .non (upd (upd H dx (exd dx [("limit", .int i)])) a (exo a C (some dx)))
theorem lim_log {i : Int} (h : okLim i = true) : i.natAbs.log2 < 1920 := by
  unfold okLim at h
  simp only [Bool.or_eq_true, decide_eq_true_eq] at h
  rcases h with (rfl | rfl) | rfl <;> decide +kernel
theorem lim_str {i : Int} (h : okLim i = true) : ("more than " : Str).length + ((toString i : String) : Str).length ≤ sizeLine := by
  unfold okLim at h
  simp only [Bool.or_eq_true, decide_eq_true_eq] at h
  rw [sizeLine_eq]
  rcases h with (rfl | rfl) | rfl <;> decide +kernel
section
variable {P : Program} {w : World} {K : PySem.W.Frag} {mg : Str → Option Value} {base : Heap} {C fI cc cda : Addr}
abbrev tmNF (cc cda : Addr) : NF := ⟨"__init__", "TooMany.__init__", defArgs tmI, defBody tmI, defScope tmI, [("__class__", cc)], cda⟩
theorem tm_init (F : TmF P K C fI cc cda) (hm : mg "super" = none) (hs : mg "str" = none) {fd : FuncData} {oc : Value} {od : Option Addr} {osl : Array (Option Value)} (lk : K.lookup fI = some ⟨oc, od, .func fd, osl⟩) (hfd : ∃ (dV kV doc pm : Value) (an : Option Addr) (ct : Value), fd = PySem.W.fnX "__init__" "TooMany.__init__" (defArgs tmI) (defBody tmI) (defScope tmI) [("__class__", cc)] .none kV doc pm an (.ref cda) ct) :
    FnOk P w K mg base (L2N.CX P w) 1 fI fd ["self", "limit"] (spTm C) := by
  refine ⟨fun vs H Q E ⟨a, i, e, _⟩ => by rw [e]; rfl, fun A outer s H args us vs Q E hr e0 hb r hsp => ?_⟩
  obtain ⟨a, i, rfl, hsm, ha, hQ⟩ := hsp
  obtain ⟨dV, kV, doc, pm, an, ct, rfl⟩ := hfd
  have KX : K.In s.heap := e0.mod.kin.keeps fun b o e => (e0.bs b o e).1
  have lim : s.heap.NoLimit := e0.mod.nolimit.keeps fun b o e => (e0.bs b o e).1
  obtain ⟨n1, n2, n3, n4, n5⟩ := tm_names
  refine PySem.ks_codeAny_call_defAt hr.depth (KX _ _ lk) rfl lim (PySem.W.codeRec_of KX F.cd) rfl hb tm_scope.nocell (fun ⟨n, _⟩ hy => tm_scope.par n (List.of_mem_zip hy).1) (fun h₀ hns kp => ?_) tm_scope.co tm_scope.gen tm_scope.kind
  obtain ⟨cl, cld, csl, hcell⟩ := F.cell
  have bcc := e0.mod.kin _ _ hcell
  have C0 : CellsAt (tmNF cc cda).cl ["__class__"] [some (V.ref C)] s.heap H := by
    have look : ∀ {y : Str} {c : Addr}, ([("__class__", cc)] : List (Str × Addr)).lookup y = some c → y = "__class__" ∧ c = cc := fun {y c} e => by
      have := PySem.mem_of_lookup e
      have := List.mem_singleton.mp this
      cases this
      exact ⟨rfl, rfl⟩
    refine ⟨rfl, fun y c e => ?_, fun x y c e1 e2 => ?_, fun i y e => ?_⟩
    · obtain ⟨rfl, rfl⟩ := look e
      exact ⟨(e0.bs _ _ bcc).2, _, ⟨_, KX _ _ hcell, rfl⟩⟩
    · rw [(look e1).1, (look e2).1]
    · match i, e with
      | 0, e =>
        cases e
        refine ⟨cc, by rw [List.lookup_cons]; simp, fun v hv => ?_⟩
        cases hv
        exact ⟨.ref C, rfl, ⟨_, KX _ _ hcell, rfl⟩⟩
  have hl : [V.ref a, V.int i].length = (["self", "limit"] : List Str).length := rfl
  have I : Inv (ncx (L2N.CX P w) P w K mg base tmN (tmNF cc cda) fI A outer s H E) [] (startF tmN [V.ref a, V.int i] [some (V.ref C)]) H { s with heap := h₀, toks := s.toks + ((["self", "limit"] : List Str).zip us).length } :=
    inv_startN tm_scope hr.hd e0 hl r C0 hns kp
  obtain ⟨p0, p1, p2, p3, p4, p5, p6, p7, p8, p9, q1, q2, q3, q4, j, pl, hbody, hpl⟩ := tm_body
  let X := ncx (L2N.CX P w) P w K mg base tmN (tmNF cc cda) fI A outer s H E
  have hA : X.A = A.deeper (envF (tmNF cc cda) fI s.heap.objs.size) := rfl
  show PySem.wpAt (model P w) X.A (.func (defBody tmI) X.env) (execs (defBody tmI) X.env) _ X.xe _
  generalize hs1 : ({ s with heap := h₀, toks := s.toks + ((["self", "limit"] : List Str).zip us).length } : Shared) = s1 at I ⊢
  rw [show execs (defBody tmI) X.env = execs _ X.env from congrArg (fun b => execs b X.env) hbody]
  obtain ⟨m, hn, hloc⟩ := I.loc
  have vis1 : Vis X.env.scope "self" := .inl n4
  obtain ⟨u1, ru1, lk1⟩ := hloc 0 "self" (.ref a) rfl rfl vis1
  obtain rfl : u1 = Value.ref a := ru1
  have hself : m "self" = some (.ref a) := by
    rcases lk1 with ⟨_, z⟩ | ⟨z, _⟩
    · exact z
    · have z : (defScope tmI).names.lookup ("self" : Str) = some .cell ∨ (defScope tmI).names.lookup ("self" : Str) = some .free := z
      rw [n4] at z
      rcases z with z | z <;> cases z
  obtain ⟨ar, br, har, hself'⟩ := tm_args
  obtain ⟨nm, q, N, bs, bm, sn, sub, ab, col, dd, k0, k1, k2, k3, k5, hC, hbm⟩ := F.T.cls
  obtain ⟨ccl, cdd, cvs, ccs, file, tf, hcode, hvs, hfile⟩ := F.code
  obtain ⟨t1, hox⟩ := exo_at I.hok ha
  obtain ⟨mb, hb1, hb2⟩ := I.mod.blt
  have hC1 := I.kIn _ _ hC
  obtain ⟨cdD, hcdD⟩ : ∃ cd, PySem.W.clsIn K C = some cd := by
    have := F.sup
    unfold PySem.W.ks_superIn at this
    cases z : PySem.W.clsIn K C with
    | none => rw [z] at this; cases this
    | some cd => exact ⟨cd, rfl⟩
  refine ks_wpAt_execs_cons (ks_wpAt_Expr_any (ks_wpAt_MethodCall (ks_wpAt_super_base n1 n3 rfl rfl (I.kIn _ _ lk) rfl (by rw [har]; rfl) rfl (I.kIn _ _ hcode) rfl hvs hfile F.top ?_) (hpl X.env)))
  have hgl : X.env.globals = mainGlobals := rfl
  refine PySem.W.ks_loadName_global (env := X.env) tm_scope.kind n1 (Calls.loadGlobal_builtin (env := X.env) (I.mod.glob.keeps I.bk) hm (hb1.keeps I.bk) ((hb2 _ (by decide)).trans (by first | exact PyProof.Rows.Boot.«super» | rfl | decide +kernel)) ⟨rfl, ?_⟩)
  refine wpAny_loadName_free (env := X.env) tm_scope.kind n3 rfl ⟨_, I.kIn _ _ hcell, rfl⟩ ?_
  have har1 : ar.arg = "self" := hself'
  rw [har1]
  refine wpAny_loadName_local (env := X.env) tm_scope.kind n4 hn hself ?_
  obtain ⟨hh, g, d, tk, os⟩ := s1
  refine ks_wpAny_isType_cls hC1 rfl ⟨rfl, ?_⟩
  refine ks_wpAny_call_super hC1 rfl hox rfl (fun c z => by cases z) (PySem.W.looks_mroIn I.kIn F.mro) (fun h' e' k' => ?_)
  have I2 : Inv X [] (startF tmN [V.ref a, V.int i] [some (V.ref C)]) H ⟨h', g, d, tk, os⟩ := I.kept (t' := tk) k'
  have hxC : a ≠ C := fun z => by
    rw [z] at hox
    rw [hC1] at hox
    cases hox
  have sup := F.sup
  unfold PySem.W.ks_superIn at sup
  rw [hcdD] at sup
  have hox2 := k' _ _ hox
  refine PySem.W.kxs_getMethod PySem.W.kxs_ValueError e' (PySem.W.looks_opaque I2.kIn F.stat) (l₀ := cdD.mro) (fun A Q E s k q => wpAny_bind ((PySem.W.looks_clsIn I2.kIn hcdD) A _ E s k (wpAny_pure q))) rfl I2.kIn sup ?_ hxC rfl ?_
  · have LT : PySem.W.Looks (model P w) h' (typeOf (.ref a)) (.ref C) := fun A Q E s k q => wpAny_typeOf_ref (k _ _ hox2) q
    exact LT.andThen (PySem.W.looks_subIn I2.kIn F.sub)
  generalize hu : h'.objs.size = u
  have I3 : Inv X [] (startF tmN [V.ref a, V.int i] [some (V.ref C)]) H ⟨h'.push (PySem.W.kxs_mw "ValueError.__init__" a), g, d, tk + 1, os⟩ := I2.kept (t' := tk + 1) fun b o z => Heap.get?_push_of_some _ z
  have hgu : (h'.push (PySem.W.kxs_mw "ValueError.__init__" a)).get? u = some (PySem.W.kxs_mw "ValueError.__init__" a) := by rw [← hu]; exact Heap.get?_push_size _ rfl
  have hle : h'.objs.size ≤ u := Nat.le_of_eq hu
  have hfp := I2.fpOk (Nat.le_of_eq hu) (I2.hok.fresh (Nat.le_of_eq hu))
  have I4 := I3.pinned (fp := [u]) (fun b hb => by
    have : b = u := by simpa using hb
    rw [this]; exact hfp) (fun b hb => by
    have : b = u := by simpa using hb
    rw [this]; exact ⟨_, hgu, fun v z => by cases z⟩)
  have pa : PA X [.BinOp (.Constant (.str "more than ") j p3) .Add (.Call (.Name "str" p4) [.Name "limit" p5] [] p6) p7] _ := pa_cons (pe_op op_add_str pe_str (pe_callTy call_str_int n2 hs (by first | exact PyProof.Rows.Boot.«str» | decide +kernel) (pa_cons (pv (X := X) 1 rfl (.inl n5)) pa_nil))) pa_nil
  refine PySem.W.kxs_callWith (i := "ValueError.__init__") (x := a) (u := u) rfl (Calls.evalArgs_plain ?_)
  refine thn (pa.run p8 _ _ _ H (fun vs H1 => ∃ z : Str, vs = [V.str z] ∧ H1 = H) I4 ?_) fun us1 s3 hus => ?_
  · exact ⟨.int i, rfl, i, rfl, lim_log hsm, _, _, rfl, rfl, lim_str hsm, _, rfl, rfl⟩
  obtain ⟨vs, H3, I5, rv, z, rfl, hH3⟩ := hus
  rw [hH3] at I5
  obtain ⟨zu, rfl, rz⟩ := rv.one
  have gu3 := (I5.pin (u, _) (List.mem_append_right _ (List.mem_append_right _ (mem_pinsAt (fp := [u]) (by simp) hgu)))).1
  refine ⟨gu3, ?_⟩
  obtain ⟨hh3, g3, d3, tk3, os3⟩ := s3
  obtain ⟨t3, hox3⟩ := exo_at I5.hok ha
  refine call_mw I5.kIn PySem.F.excBase_ValueError F.ex gu3 hox3 (by show 1 ≤ sizeLine; decide) fun h4 t4 k4 hx4 => ?_
  have J0 := I5.write (t' := tk3) (x := a) (e := a) (o := exo a C none) (by rw [ha]; exact True.intro) (.inl rfl) k4 ⟨_, hx4⟩ (exo_ok hx4)
  have eu : upd H a (exo a C none) = H := by
    funext b
    by_cases hb : b = a
    · rw [hb, upd_same, ha]
    · rw [upd_ne hb]
  rw [eu] at J0
  have st2 : PS X (.Assign [.Attribute (.Name "self" q1) "limit" q2] (.Name "limit" q3) q4) (tOst X.K "limit" (tVar 0) (tVar 1)) := ps_ost (pv (X := X) 0 rfl (.inl n4)) (pv (X := X) 1 rfl (.inl n5)) rfl
  refine wpAt_of_wpAny (wpAny_mono ((pss_cons st2 pss_nil).run _ _ _ H { nx := fun _ H' => Q .non H', rt := fun _ _ => False } J0 ?_) (fun f s5 hsp => ?_) fun _ _ z => z)
  · refine ⟨.int i, rfl, .ref a, rfl, a, C, rfl, F.T, F.nolim, .inl ⟨ha, fun dx hd hne => ?_⟩⟩
    exact hQ dx hd hne
  · cases f with
    | next =>
      obtain ⟨σ', H', J, q⟩ := hsp
      exact ⟨.non, H', J.os, J.bare, J.base, J.hok, rfl, q⟩
    | ret v =>
      obtain ⟨_, _, _, _, _, q⟩ := hsp
      exact q.elim
    | brk =>
      obtain ⟨_, _, _, q⟩ := hsp
      exact q.elim
    | cont =>
      obtain ⟨_, _, _, q⟩ := hsp
      exact q.elim
end
end Nk
end
section
set_option Elab.async false
set_option linter.all false
set_option maxRecDepth 100000
set_option maxHeartbeats 2000000
/-! an own exception with an own __init__ is made; its context is None -/
namespace Nk
open PySem PySem.Spec PyProof.Rows L2
theorem mkN {X : Cx} {CXX : CXT} {nm : Str} {e : Expr} {es : List Expr} {tA : TA} {q1 q2 : Pos} {C fi : Addr} {lev : Nat} {fdd : FuncData} {prs : List Str} {spp : Sp} (TT : OexC X.K C)
    (hI : PySem.W.findIn X.K (.ref C) "__init__" = some (some (.ref fi))) (hT : PySem.W.typeIn X.K (.ref fi) = some (.type "function")) (FF : FnOk X.prog X.w X.K X.mg X.base CXX lev fi fdd prs spp)
    (room : Room (lev + 1) X.A) (bnd : Binds X.K fdd prs []) (hps : Passes CXX X (fun _ _ _ => False)) (gl : Gl X nm) (hmg : X.mg nm = some (.ref C)) (hargs : PA X (e :: es) tA)
    (hdeb : (nm == ("__debug__" : Str)) = false) (hst : starEach (e :: es) X.env = (false, eval e X.env) :: starEach es X.env) (hpl : (backTo q2 (starEach es X.env)).any (·.1) = false) :
    L2N.PMk X (.Call (.Name nm q1) (e :: es) [] q2) (tMkO C spp [] tA) := by
  intro pinz st σz Hz Qz IN hq0
  obtain ⟨n1, n2, n3, bs, bm, sn, sub, ab, col, dd, k0, k1, k2, k3, k5, clsC, refC⟩ := TT.cls
  refine wpAny_Call_Name_kw (ld_glob IN gl hmg ?_ hdeb)
  refine PySem.W.callWith_K (h₀ := X.base) IN.ok.mod.kin TT.kC (thn (hargs.run q2 pinz st σz Hz _ IN hq0) fun uu s1 ⟨vv, Ha, Ia, rel, small, nxt⟩ => ⟨Ia.kIn, ?_⟩) hst hpl
  show wpAny _ _ (call (.ref C) uu) _ _ _
  obtain ⟨hp, gg, dw, tkk, oss⟩ := s1
  have le1 : hp.objs.size ≤ hp.objs.size + 1 := Nat.le_succ _
  have new1 : Ha (hp.objs.size + 1) = none := Ia.hok.fresh le1
  have prom := nxt (hp.objs.size + 1) new1
  rw [List.append_nil] at prom
  have stay : ∀ b o, hp.get? b = some o → ((hp.push (PySem.W.kdv_tup uu)).push (PySem.HandSPX.excO C hp.objs.size)).get? b = some o := fun b o z => Heap.get?_push_of_some _ (Heap.get?_push_of_some _ z)
  have there : ((hp.push (PySem.W.kdv_tup uu)).push (PySem.HandSPX.excO C hp.objs.size)).get? (hp.objs.size + 1) = some (PySem.HandSPX.excO C hp.objs.size) := by
    heap_get
  have Ib : Inv X pinz σz (upd Ha (hp.objs.size + 1) (exo (hp.objs.size + 1) C none)) ⟨(hp.push (PySem.W.kdv_tup uu)).push (PySem.HandSPX.excO C hp.objs.size), gg, dw, tkk, oss⟩ :=
    Ia.laid (t' := tkk) (a := hp.objs.size + 1) (o := exo (hp.objs.size + 1) C none)
      (h' := (hp.push (PySem.W.kdv_tup uu)).push (PySem.HandSPX.excO C hp.objs.size)) stay le1 (exo_ok there)
  have rel2 : Vals (V.ref (hp.objs.size + 1) :: vv) (Value.ref (hp.objs.size + 1) :: uu) := .cons rfl rel
  have len2 : (Value.ref (hp.objs.size + 1) :: uu ++ []).length = prs.length := by
    have z := rel2.length
    rw [FF.len _ _ _ _ prom] at z
    rw [List.append_nil]; exact z.symm
  have fit : uu.length ≤ sizeLine := by
    rw [← Paired.length rel, sizeLine_eq]; omega
  have bd := bnd _ (Value.ref (hp.objs.size + 1) :: uu) Ib.kIn len2
  rw [List.append_nil] at bd
  refine wpAny_call (PySem.HandSPX.call_own F.excBase_ValueError (fun Y => PySem.HandSPX.refsVE_contains Y bm refC) (Ia.kIn _ _ clsC) (PySem.W.looks_findIn Ia.kIn hI)
    (fun me => PySem.W.bind_fn Ia.kIn me hT) fit (codeAny_mono (FF.run _ X.stack _ _ ⟨Value.ref (hp.objs.size + 1) :: uu, []⟩
      (Value.ref (hp.objs.size + 1) :: uu) _ _ (fun _ _ _ => False) (room.make C uu []) (Ib.env0.make C uu []) bd rel2 prom) fun res s2 got => ?_))
  cases res with
  | error er => exact hps pinz σz _ _ er s2 Ib got
  | ok fl =>
    cases fl with
    | ret u =>
      obtain ⟨v, Hc, os2, bare2, un2, hok2, rv, ev, d, fs, ea, ed, hd1, qq⟩ := got
      subst ev
      obtain ⟨h2, g2, d2, t2, os'⟩ := s2
      obtain ⟨t0, G, J, kG, ge, hoe, na⟩ := mk_end0 (d2 := d2) (t2 := t2) Ia le1 stay un2 hok2 os2 bare2 ea ed hd1
      refine ⟨rv, hp.objs.size + 1, _, _, ⟨G, g2, d2, t2, os'⟩, _, .ref C, some d, rfl, J, kG, ge, hoe, ⟨rfl, rfl, fun vs hv => ?_⟩, rfl, rfl, na, rfl, bare2, raises_own TT.exC TT.tyC, qq⟩
      cases hv; rfl
    | next => exact False.elim got
    | brk => exact False.elim got
    | cont => exact False.elim got
end Nk
end
section
set_option Elab.async false
set_option linter.all false
set_option maxRecDepth 100000
set_option maxHeartbeats 1000000
/-! raises -/
namespace Nk
open PySem PySem.Spec PyProof.Rows L2 NdefX
/-- what is told of the exceptions' classes -/
structure ExF (P : Program) (K : PySem.W.Frag) (mg : Str → Option Value) (c : Cl) : Prop where
  own : ∀ x xc, excO x = some xc → mg x = some (.ref (c.of xc)) ∧ PySem.W.excIn K (c.of xc) [.type "ValueError", .type "Exception", .type "BaseException", .type "object"] "ValueError.__new__" = true ∧ PySem.W.keepIn K (.ref (c.of xc)) = true ∧ PySem.W.subIn K (.ref (c.of xc)) (.type "BaseException") = some true ∧ PySem.W.typeIn K (.ref (c.of xc)) = some (.type "type")
  tm : ∃ fI cc cda, TmF P K c.many fI cc cda
  gT : mg "TooMany" = some (.ref c.many)
  gsuper : mg "super" = none
  gstr : mg "str" = none
theorem exc_debug {x : Str} {xc : Xc} (h : excO x = some xc) : (x == ("__debug__" : Str)) = false := by
  unfold excO at h
  repeat' split at h
  all_goals first | (cases h; done) | (rename_i e; rw [e]; decide +kernel) | (rename_i e _; rw [e]; decide +kernel)
theorem ra_all {P : Program} {w : World} {K : PySem.W.Frag} {mg : Str → Option Value} {base : Heap} {c : Cl} (F : ExF P K mg c) : RaAll P w K mg base c := by
  intro X S E e1 e2 e3 e4 e5 hc hsc tk hr
  subst e1 e2 e3 e4 e5
  have gl : ∀ {x : Str}, isGl S x = true → Gl X x := fun {x} h => by
    unfold isGl at h
    simp only [Bool.and_eq_true, decide_eq_true_eq] at h
    rw [hsc] at h
    exact h.2
  refine ⟨fun x m xc j p p2 p3 pos hg hx => ?_, fun hrm e te p p3 pos hg he mono hsh => ?_⟩
  · obtain ⟨a1, a2, a3, a4, a5⟩ := F.own x xc hx
    exact L2N.ps_raise hc tk (L2N.pmk_own PySem.F.excBase_ValueError a2 a1 a3 (raises_own a4 a5) (gl hg) (exc_debug hx))
  · obtain ⟨fI, cc, cda, T⟩ := F.tm
    obtain ⟨oc, od, dV, kV, doc, pm, an, ct, osl, lk⟩ := T.fn
    have h4 := shape_star (shape_noStar hsh) [] X.env
    have F1 := tm_init (w := X.w) (mg := X.mg) (base := X.base) T F.gsuper F.gstr lk ⟨.none, _, _, _, _, _, rfl⟩
    have hb : Binds X.K (PySem.W.fnX "__init__" "TooMany.__init__" (defArgs tmI) (defBody tmI) (defScope tmI) [("__class__", cc)] .none kV doc pm an (.ref cda) ct) ["self", "limit"] [] := .all (fun us hl => match us, hl with | [_, _], _ => rfl)
    have pm := mkN (q1 := p) (q2 := p3) T.T T.iC T.tI F1 (hr hrm) hb (fun pins σ H s u s' I q => by obtain ⟨_, _, _, _, _, _, _, _, _, _, _, _, z⟩ := q; exact z.elim) (gl hg) F.gT (pa_cons he pa_nil h4) (by decide +kernel) h4 rfl
    refine PS.imp (L2N.ps_raise hc tk pm) fun D σ H q => ?_
    have q : te σ H fun v H1 => ∃ i, v = .int i ∧ okLim i = true ∧ ∀ d, H1 d = none → E (.ref c.many) (some d) (upd H1 d (.xd [("limit", .int i)])) := q
    refine mono σ H _ _ (fun v H1 ⟨i, ev, hi, q⟩ => ?_) q
    subst ev
    refine ⟨by show 1 ≤ 1000; decide, fun a ha => ⟨a, i, rfl, hi, upd_same, fun dx hd hne => ⟨rfl, dx, [("limit", .int i)], upd_same, by rw [upd_ne hne, upd_same], ?_, ?_⟩⟩⟩
    · rw [upd_ne hne] at hd; exact hd
    · have hd1 : H1 dx = none := by rw [upd_ne hne] at hd; exact hd
      have e : upd (del (upd (upd (upd H1 a (exo a c.many none)) dx (exd dx [("limit", .int i)])) a (exo a c.many (some dx))) a) dx (.xd [("limit", .int i)]) = upd H1 dx (.xd [("limit", .int i)]) := by
        funext b
        by_cases h1 : b = dx
        · rw [h1, upd_same, upd_same]
        · rw [upd_ne h1, upd_ne h1]
          by_cases h2 : b = a
          · rw [h2, del_same, ha]
          · rw [del_ne h2, upd_ne h2, upd_ne h1, upd_ne h2]
      rw [e]
      exact q dx hd1
end Nk
end
section
set_option Elab.async false
set_option linter.all false
set_option maxRecDepth 100000
set_option maxHeartbeats 4000000
/-! a try with several clauses that give the error a name -/
namespace Nk
open PySem PySem.Spec PyProof.Rows L2
abbrev Suit : Type := Addr → Value → Option Addr → TS
/-- what the clauses make of an exception, one after the other -/
def wEach (K : PySem.W.Frag) (i : Nat) (Wo : WX) (D : Ends) : List (Value × Suit) → WX
  | [] => Wo
  | (c, ts) :: r => wAs K c i ts (wEach K i Wo D r) D
inductive Cls2 (X : Cx) (n : Str) : List ExceptHandler → List (Value × Suit) → Prop
  | nil : Cls2 X n [] []
  | cons {x : Str} {c : Value} {ts : Suit} {b : Stmt} {rest : List Stmt} {p1 p2 : Pos} {hs : List ExceptHandler} {l : List (Value × Suit)} (nm : Names X x c)
      (su : ∀ (a : Addr) (oe : Obj) (cls : Value) (d : Option Addr) (pn : List (Addr × Obj)), L2N.Zn cls d oe → (∃ vs, oe.data = .fields vs) →
        PSs (X.suite a ((a, oe) :: pn)) (b :: rest) (ts a cls d)) (more : Cls2 X n hs l) :
      Cls2 X n (.ExceptHandler (some (.Name x p1)) (some n) (b :: rest) p2 :: hs) ((c, ts) :: l)
section
variable {X : Cx} {n : Str} {i : Nat} {bod : List Stmt} {h0 : ExceptHandler} {hs : List ExceptHandler} {l : List (Value × Suit)} {pos : Pos} {tb : WX → TS} {Wo : WX}
theorem ps_try_each (st : X.stack = X.env :: X.outer) (fr : X.env.frame = some X.env.locals) (nd : X.N.Nodup) (ni : X.N[i]? = some n) (nl : X.env.kindOf n = some .local) (tk : L2N.Takes X Wo)
    (hb : ∀ (W : WX) (pn : List (Addr × Obj)) (xe : Value → Shared → Prop), L2N.Takes (X.tr pn xe) W → PassesOwn (model X.prog X.w) X.A X.env xe →
      PSs (X.tr pn xe) bod (tb W))
    (hh : Cls2 X n (h0 :: hs) l) : PS X (.Try bod (h0 :: hs) [] [] pos) (fun D σ H => tb (wEach X.K i Wo D l) D σ H) := by
  refine ⟨fun pinz sz σz Hz Dz IZ hz0 => ?_⟩
  have okk := IZ.ok
  have afr : X.A.frames = some (X.env :: X.outer) := by
    rw [okk.frames, st]
  have lcl : Loc X.env.scope n := .inl nl
  refine wpAny_Try_except ?_
  refine wpAny_mono ((hb (wEach X.K i Wo Dz l) (X.pn ++ pinz) (fun e s₁ => wpAny (model X.prog X.w) X.A (noteFrame e X.env) (fun _ s₂ =>
      wpAny (model X.prog X.w) X.A (setFlight e none) (fun _ s₃ => wpAny (model X.prog X.w) X.A (handleBy e X.env (h0 :: hs)) (SP X pinz Dz) X.xe s₃) X.xe s₂) X.xe s₁)
    (fun u s9 air => ?_) PassesOwn.looking).run [] sz σz Hz Dz (IZ.toTry _) hz0) (fun f s1 ended => ?_) (fun e s1 z => z)
  · obtain ⟨a, B, sI, pinq, σq, Hq, cls, d, rfl, JJ, nb, up, sky, na, os, ag, w⟩ := air
    have J : Inv X pinz σq Hq sI := JJ.ofTry okk
    have sky2 : Sky B (X.env :: X.outer) a (L2N.Zn cls d) X.env.locals s9.heap := by
      rw [← st]; exact sky
    show wpAny (model X.prog X.w) X.A (noteFrame (.ref a) X.env) _ _ _
    refine L2N.Sky.land L2N.Zn.steady afr fr sky2 fun hA flA upA => ?_
    have JA : Inv X pinz σq Hq { s9 with heap := hA } := J.landed nb flA.1 (up.trans upA) os ag
    obtain ⟨oA, vA, getA, znA, datA⟩ := flA.there
    have nfr : a ∉ frs (X.env :: X.outer) := fun hm => by
      obtain ⟨_, o2, e2, nf⟩ := flA.2.2.1.mem hm
      rw [getA] at e2
      cases e2
      exact nf _ datA
    have nL : a ≠ X.env.locals := fun z => nfr (List.mem_filterMap.mpr ⟨X.env, List.mem_cons_self, by
      rw [fr, z]⟩)
    have nF : a ∉ X.fs := fun hm => by
      obtain ⟨e1, he1, q1⟩ := List.mem_filterMap.mp hm
      exact nfr (List.mem_filterMap.mpr ⟨e1, List.mem_cons_of_mem _ he1, q1⟩)
    have SA := JA.suite getA datA na nL nF
    have go : ∀ {ks : List ExceptHandler} {m : List (Value × Suit)}, Cls2 X n ks m → wEach X.K i Wo Dz m cls d σq Hq →
        wpAny (model X.prog X.w) X.A (handleBy (.ref a) X.env ks) (SP X pinz Dz) X.xe { s9 with heap := hA } := by
      intro ks m cl
      induction cl with
      | nil =>
        intro ww
        refine wpAny_handleBy_nil ?_
        obtain ⟨_, _, _, oe, vs, T, oT, ts', he, hz, hd, h1, hr⟩ := id flA
        unfold PySem.passOn
        refine wpAny_bind (wpAny_field he hd h1 ?_)
        rw [if_neg (show ¬ ((Value.ref T == Value.none) = true) by simp)]
        have fin : wpAny (model X.prog X.w) X.A (setFlight (.ref a) X.env.frame) (fun _ s4 =>
            wpAny (model X.prog X.w) X.A (throw (.ref a) : Sem Flow) (SP X pinz Dz) X.xe s4) X.xe { s9 with heap := hA } := by
          rw [fr]
          refine HandSPX.setFlight_upZ flA fun hB flB upB => wpAny_throw (tk _ _ ?_)
          exact ⟨a, B, sI, pinz, σq, Hq, cls, d, rfl, J, nb, (up.trans upA).trans upB, .inr (.inr (by
            rw [st]; exact flB)), na, os, ag, ww⟩
        first | exact wpAny_bind (wpAny_pure (wpAny_bind fin)) | exact wpAny_bind fin
      | @cons x c ts b rest p1 p2 ks2 m2 nm su more ih =>
        intro ww
        obtain ⟨bb, hb1, yes, no⟩ := ww
        refine wpAny_handleBy_cons (codeAny_handlers_test ?_) (by intro q; cases q)
        have LT : PySem.W.Looks (model X.prog X.w) hA (typeOf (.ref a)) cls := fun A Q E s k q =>
          wpAny_typeOf_ref (k _ _ getA) (by rw [znA.1]; exact q)
        have LM := PySem.W.exm_one (M := model X.prog X.w) (JA.kIn) LT hb1
        have tst : ∀ {Q : Value → Shared → Prop} {E : Value → Shared → Prop}, Q c { s9 with heap := hA } →
            wpAny (model X.prog X.w) (X.A.mark (some (.ref a))) (eval (.Name x p1) X.env) Q E { s9 with heap := hA } := fun {Q E} q => by
          obtain ⟨hg, hdbg, hm | ⟨hm, hv, hnn⟩⟩ := nm
          · exact ld_glob (X := X.suite a ((a, oA) :: (X.pn ++ pinz))) SA hg hm q hdbg
          · exact ld_blt (X := X.suite a ((a, oA) :: (X.pn ++ pinz))) SA hg hm hv q hnn hdbg
        refine tst (LM.here ?_)
        cases bb with
        | true =>
          refine codeAny_handlers_suite_as ?_
          refine HandSPX.lands_againZ flA fun hB flB upB => ?_
          have JB : Inv X pinz σq Hq { s9 with heap := hB } := J.landed nb flB.1 ((up.trans upA).trans upB) os ag
          obtain ⟨oB, vB, getB, znB, datB⟩ := flB.there
          have SB := JB.suite getB datB na nL nF
          refine store_ok (X := X.suite a ((a, oB) :: (X.pn ++ pinz))) (v := .ref a) SB nd ni lcl rfl (fun s5 S5 => ?_) (.inr nl)
          have bye : ∀ {σ6 : L2.St} {H6 : Hp} {s6 : Shared} {Q : Shared → Prop}, Inv (X.suite a ((a, oB) :: (X.pn ++ pinz))) [] σ6 H6 s6 → (∀ s7, Inv X pinz (σ6.set i none) H6 s7 → Q s7) →
              wpAny (model X.prog X.w) X.A (do bindName X.env n .none; unbindBehindTheSuite X.env n p2) (fun _ s7 => Q s7) X.xe s6 :=
            fun S6 hq => gone_ok (S6.unsuite okk) nd ni nl hq
          refine wpAny_mono ((su a oB cls d (X.pn ++ pinz) znB ⟨_, datB⟩).run [] s5 _ Hq _ S5 (yes rfl a na)) (fun f s6 out => ?_) (fun _ _ z => z.elim)
          cases f with
          | next => obtain ⟨_, _, S6, q6⟩ := out; exact bye S6 fun s7 J7 => ⟨_, _, J7, q6⟩
          | brk => obtain ⟨_, _, S6, q6⟩ := out; exact bye S6 fun s7 J7 => ⟨_, _, J7, q6⟩
          | cont => obtain ⟨_, _, S6, q6⟩ := out; exact bye S6 fun s7 J7 => ⟨_, _, J7, q6⟩
          | ret u => obtain ⟨_, _, _, S6, r6, q6⟩ := out; exact bye S6 fun s7 J7 => ⟨_, _, _, J7, r6, q6⟩
        | false => exact ih (no rfl)
    exact go hh w
  · cases f with
    | next => obtain ⟨_, _, J7, q⟩ := ended; exact wpAny_execs_nil ⟨_, _, J7.ofTry okk, q⟩
    | brk => obtain ⟨_, _, J7, q⟩ := ended; exact ⟨_, _, J7.ofTry okk, q⟩
    | cont => obtain ⟨_, _, J7, q⟩ := ended; exact ⟨_, _, J7.ofTry okk, q⟩
    | ret u => obtain ⟨_, _, _, J7, r, q⟩ := ended; exact ⟨_, _, _, J7.ofTry okk, r, q⟩
end
end Nk
end
section
set_option Elab.async false
set_option linter.all false
set_option maxRecDepth 100000
set_option maxHeartbeats 4000000
/-! a lambda handed to a def that calls it; exceptions whose context is None -/
namespace Nk
open PySem PySem.Spec PyProof.Rows L2 LamX
/-- what is wished of an exception that leaves the lambda -/
def lamXe (X : Cx) (A : Around) (outer : List PySem.Env) (s : Shared) (H : Hp) (E : XK) (scope : Scope) (f c' : Addr) : Value → Shared → Prop := fun e s1 =>
  wpAny (model X.prog X.w) (A.deeper (lamEnv X scope s.heap.objs.size f c')) (leaving (lamEnv X scope s.heap.objs.size f c') e)
    (fun _ s2 => L2N.CX X.prog X.w outer H s E e s2) (fun e2 s2 => L2N.CX X.prog X.w outer H s E e2 s2) s1
abbrev lamN (X : Cx) (A : Around) (outer : List PySem.Env) (s : Shared) (H : Hp) (E : XK) (scope : Scope) (f c' : Addr) : Cx := (lamCx X A outer s H E scope f c').wish (lamXe X A outer s H E scope f c')
section
variable {X : Cx} {pins : List (Addr × Obj)} {σ : L2.St} {H : Hp} {s : Shared}
theorem act_N {CXg : CXT} {Eg : XK} {Ng : List Str} {qg : Str} {sg : Scope} {g f c' : Addr} {cdg pm ctv : Value} {params : Arguments} {body : Expr} {scope : Scope} {lev i : Nat} {nm : Str} {pn : List (Addr × Obj)} {xe : Value → Shared → Prop} {W : WX} {tb : XK → TE} {p1 p2 : Pos}
    (IX : Inv X pins σ H s) (LS : LamS X.env.scope scope) (hf : s.heap.get? f = some (PySem.W.kla_obj "<lambda>" (X.env.qual ++ "<lambda>") params body scope (cloFrom X.env.cells scope.names []) pm c' ctv)) (fnone : H f = none) (ffr : f ∉ frs X.stack)
    (bnd : bindArgs (PySem.W.kla_fn "<lambda>" (X.env.qual ++ "<lambda>") params body scope (cloFrom X.env.cells scope.names []) pm (.ref c') ctv) ⟨[], []⟩ = pure [])
    (tk : L2N.Takes ((cxOf CXg X.prog X.w X.K X.mg X.base Ng qg sg g cdg X.A X.stack s H Eg).tr pn xe) W) (room : Room (lev + 1) (X.A.deeper (envOfC qg sg s.heap.objs.size g cdg)))
    (hbody : ∀ (A : Around) (outer : List PySem.Env) (s : Shared) (H : Hp) (E : XK), Room lev (A.deeper (lamEnv X scope s.heap.objs.size f c')) → PE (lamN X A outer s H E scope f c') body (tb E))
    (hN : Ng[i]? = some nm) (hv : Vis sg nm) (hd : (nm == ("__debug__" : Str)) = false) (hcd : (nm == ("__classdict__" : Str)) = false) :
    PE ((cxOf CXg X.prog X.w X.K X.mg X.base Ng qg sg g cdg X.A X.stack s H Eg).tr pn xe) (.Call (.Name nm p1) [] [] p2)
      (fun σZ HZ Q => ∃ E : XK, (∀ cls d H', E cls d H' → W cls d σZ H') ∧ σZ[i]? = some (some (.ref f)) ∧ HZ c' = some (CodeO c' (X.env.qual ++ "<lambda>")) ∧ tb E σ HZ Q) := by
  refine ⟨fun pinz sZ σZ HZ QQ IZ hyp => ?_⟩
  obtain ⟨E, hE, hslot, hcode, hrd⟩ := hyp
  refine wpAny_Call_Name_kw (thn ((pe_var (pos := p1) (i := i) hN hv hd hcd).run pinz sZ σZ HZ (fun v H1 => v = .ref f ∧ H1 = HZ) IZ ⟨.ref f, hslot, rfl, rfl⟩) fun uu s1 got => ?_)
  obtain ⟨v, H1, I1, r1, ev, eH⟩ := got
  subst ev
  rw [eH] at I1
  obtain rfl : uu = Value.ref f := r1
  have there : s1.heap.get? f = some (PySem.W.kla_obj "<lambda>" (X.env.qual ++ "<lambda>") params body scope (cloFrom X.env.cells scope.names []) pm c' ctv) :=
    I1.base.keep f _ hf fnone ffr (fun z => nomatch (show f ∈ ([] : List Addr) from z))
  refine PySem.W.callWith_F0 ⟨_, _, _, _, there⟩ ?_
  have grown : Un (frs X.stack) [] H HZ s.heap s1.heap := I1.base
  obtain ⟨⟨oc, vs, t, c1, c2, c3⟩, _, _⟩ := I1.hok c' _ hcode
  have run : codeAny (model X.prog X.w) (X.A.deeper (envOfC qg sg s.heap.objs.size g cdg)) (.call (.ref f) ⟨[], []⟩)
      (CR (L2N.CX X.prog X.w) (envOfC qg sg s.heap.objs.size g cdg :: X.stack) X.prog X.w HZ s1 QQ E) s1 := by
    refine PySem.W.kla_callFunE room.depth there rfl LS.co LS.gen rfl ⟨c', oc, vs, t, rfl, c1, c2, c3⟩ ?_
    rw [bnd]
    refine wpAny_pure (wpAny_newFunctionEnv (fun y hy => (LS.own y hy).2) (fun y hy => absurd hy (by simp)) (fun h₁ hns hsb =>
      ⟨I1.nolimit.fresh _ hsb, ?_⟩) LS.kind)
    show codeAny _ _ (.expr body (lamEnv X scope s1.heap.objs.size f c')) _ _
    have keep : ∀ b o, s1.heap.get? b = some o → h₁.get? b = some o := fun b o e =>
      hsb.extBut b o (Nat.ne_of_lt (Heap.lt_size e)) (Heap.get?_push_of_some _ e)
    have J : Inv (lamN X (X.A.deeper (envOfC qg sg s.heap.objs.size g cdg)) (envOfC qg sg s.heap.objs.size g cdg :: X.stack) s1 HZ E scope f c') [] σ HZ { s1 with heap := h₁, toks := s1.toks + ([] : List (Str × Value)).length } :=
      (lam_start2 (E := E) IX LS I1.env0 room.hd grown hns keep).wish _
    refine PySem.W.kla_codeExpr (wpAny_mono ((hbody _ _ s1 HZ E (room.deeper _)).run [] _ _ HZ QQ J hrd) (fun v s' hq => ?_) fun e s' hq => hq)
    obtain ⟨w', H', J', rv, q⟩ := hq
    exact ⟨w', H', J'.os, J'.bare, J'.base, J'.hok, rv, q⟩
  refine wpAny_call (codeAny_mono run fun r s' hq => ?_)
  cases r with
  | error e => exact tk e s' (L2N.XE.of_call I1 (fun cls d H' h => hE cls d H' h) hq)
  | ok fl =>
    cases fl with
    | ret u => exact I1.after hq
    | next => exact hq.elim
    | brk => exact hq.elim
    | cont => exact hq.elim
end
/-- the def that calls what it got -/
def GivesN (X : Cx) (Ng : List Str) (x : Str) (sg : Scope) (g : Addr) (cdg : Value) (bg : List Stmt) (nm : Str) (q : Str) (TT : (XK → Hp → VK → Prop) → Hp → VK → Prop) : Prop :=
  ∀ (f c' : Addr) (s : Shared) (H : Hp) (Q : VK) (tl : XK → Hp → VK → Prop), Room 1 (cxOf C8.CX0 X.prog X.w X.K X.mg X.base Ng x sg g cdg X.A X.stack s H C8.E0).A →
    (∀ (W : WX) (pn : List (Addr × Obj)) (xe : Value → Shared → Prop) (p1 p2 : Pos), L2N.Takes ((cxOf C8.CX0 X.prog X.w X.K X.mg X.base Ng x sg g cdg X.A X.stack s H C8.E0).tr pn xe) W →
      PE ((cxOf C8.CX0 X.prog X.w X.K X.mg X.base Ng x sg g cdg X.A X.stack s H C8.E0).tr pn xe) (.Call (.Name nm p1) [] [] p2) (fun σZ HZ Q => ∃ E : XK, (∀ cls d H', E cls d H' → W cls d σZ H') ∧ σZ[0]? = some (some (.ref f)) ∧ HZ c' = some (CodeO c' q) ∧ tl E HZ Q)) →
    H c' = some (CodeO c' q) → TT tl H Q →
    ∃ t, PSs (cxOf C8.CX0 X.prog X.w X.K X.mg X.base Ng x sg g cdg X.A X.stack s H C8.E0).nox bg t ∧ t { nx := fun _ H' => Q .non H', rt := Q } (L2.start Ng [.ref f]) H
section
variable {X : Cx}
theorem lamcall_N {T : List (Addr × Str)} {TT : (XK → Hp → VK → Prop) → Hp → VK → Prop} {x nm : Str} {g c P : Addr} {lev : Nat} {pg : Arguments} {bg : List Stmt} {sg : Scope} {dV kV doc pm cdv ct oc : Value} {an od : Option Addr} {osl : Array (Option Value)} {Ng : List Str}
    {params : Arguments} {body : Expr} {scope : Scope} {t : XK → TE} {p lpos pos : Pos} (gl : Gl X x) (hm : X.mg x = some (.ref g)) (hk : PySem.W.keepIn X.K (.ref g) = true)
    (lk : X.K.lookup g = some ⟨oc, od, .func (PySem.W.fnOf x x pg bg sg dV kV doc pm an cdv ct), osl⟩) (hcg : PySem.W.codeIn X.K cdv x = true) (hb : L2.Binds X.K (PySem.W.fnOf x x pg bg sg dV kV doc pm an cdv ct) [nm] []) (Sg : FnScope Ng [nm] sg) (hNg : Ng[0]? = some nm) (hva : Vis sg nm)
    (hG : GivesN X Ng x sg g cdv bg nm (X.env.qual ++ "<lambda>") TT)
    (TB : TabB X.base X.mg c P) (hcode : X.env.code = .ref c) (hmT : (P, X.env.qual ++ "<lambda>") ∈ T) (hu : ∀ p ∈ T, p.1 = P → p.2 = X.env.qual ++ "<lambda>") (hr : Room (lev + 2) X.A) (LS : LamS X.env.scope scope) (hdef : defaultsOf params X.env = ([], []))
    (bnd : ∀ (q : Str) (cl : List (Str × Addr)) (pm cv ctv : Value), bindArgs (PySem.W.kla_fn "<lambda>" q params body scope cl pm cv ctv) ⟨[], []⟩ = pure [])
    (hbody : ∀ (A : Around) (outer : List PySem.Env) (s : Shared) (H : Hp) (E : XK) (f c' : Addr), Room lev (A.deeper (lamEnv X scope s.heap.objs.size f c')) → PE (lamN X A outer s H E scope f c') body (t E))
    (hdb : (x == ("__debug__" : Str)) = false) (hd : (nm == ("__debug__" : Str)) = false) (hcd : (nm == ("__classdict__" : Str)) = false) :
    PE X (.Call (.Name x p) [.Lambda params body scope lpos] [] pos) (tLam T TT t) := by
  refine ⟨fun pinz s σ H Q IX hyp => ?_⟩
  obtain ⟨tabs, hyp⟩ := hyp
  refine wpAny_Call_Name_kw (ld_glob IX gl hm ?_ hdb)
  refine PySem.W.callWith_K (h₀ := X.base) IX.ok.mod.kin hk ?_ (by rfl) (by rfl)
  show wpAny _ _ (spliced ((false, eval (.Lambda params body scope lpos) X.env) :: backTo pos (starEach [] X.env))) _ _ s
  refine Calls.spliced_cons (lam_make2 IX TB hcode hmT hu tabs hdef (LS.has IX.ok) fun f c' pm' ctv H1 s' I1 eN T1 hf fnone ffr hco => ?_)
  refine Calls.spliced_nil ⟨I1.kIn, ?_⟩
  have run : codeAny (model X.prog X.w) X.A (.call (.ref g) ⟨[.ref f], []⟩) (CR C8.CX0 X.stack X.prog X.w H1 s' Q C8.E0) s' := by
    refine run_ofS (N := Ng) (ps := [nm]) (us := [.ref f]) (vs := [.ref f]) lk hcg Sg hr I1.env0 (hb s' [.ref f] I1.kIn rfl) (.cons rfl .nil) rfl fun hr' => ?_
    obtain ⟨t', ht', hq'⟩ := hG f c' s' H1 Q (fun E H' Q' => t E σ H' Q') (hr'.mono (by omega)) (fun W pn xe p1 p2 tk => act_N (i := 0) (tb := t) I1 LS hf fnone ffr (bnd _ _ _ _ _) tk hr' (fun A outer s H E hr2 => hbody A outer s H E f c' hr2) hNg hva hd hcd) hco (hyp H1 eN T1)
    exact ⟨t', ht'.nox, hq'⟩
  refine wpAny_call (codeAny_mono run fun r s2 hq => ?_)
  cases r with
  | error e => exact (show False from hq).elim
  | ok fl =>
    cases fl with
    | ret u => exact I1.after hq
    | next => exact hq.elim
    | brk => exact hq.elim
    | cont => exact hq.elim
end
end Nk
end
section
set_option Elab.async false
set_option linter.all false
set_option maxRecDepth 100000
set_option maxHeartbeats 2000000
/-! the end of a walk of two lists while an exception is handled -/
namespace PySem
open PySem.Spec PyProof.Rows HotX
section
variable {prog : Program} {w : World} {A : Around} {E : Value → Shared → Prop} {s : Shared}
theorem nkList_end {it l x1 : Addr} {i : Nat} {items : Array Value} {Q : Value → Shared → Prop} (hot : HotAt A x1 s.heap) (ne : x1 ≠ it) (hit : s.heap.IsListIter it l i) (hl : s.heap.IsList l items) (hx : items[i]? = none)
    (hE : ∀ h' e, Heap.ExtBut it s.heap h' → (∃ o, h'.get? e = some o ∧ o.cls = .type "StopIteration") → E (.ref e) { s with heap := h' }) :
    wpAny (model prog w) A (Builtin.SmallTypes.nextOf (.ref it)) Q E s := by
  obtain ⟨hh, ob, vb, gb, db, cb⟩ := hot
  obtain ⟨o, ho, hc, hd⟩ := id hit
  obtain ⟨ol, hol, _, nl, hdl⟩ := hl
  unfold Builtin.SmallTypes.nextOf
  refine wpAny_bind (wpAny_callSpecial?_slot (name := Str.ofString "__next__") hit.typeIs slot_listiter_next (wpAny_call_entry slot_listiter_next hit.typeIs
    entry_listiter_next ?_ (args_listiter_next _)))
  show wpAny _ _ (field (.ref it) 0 >>= _) _ _ s
  refine wpAny_bind (wpAny_field ho hd (x := .ref l) rfl ?_)
  show wpAny _ _ (if (Value.ref l == Value.none) = true then _ else _) _ _ s
  rw [if_neg (by exact Bool.false_ne_true : ¬ ((Value.ref l == Value.none) = true))]
  show wpAny _ _ (field (.ref it) 1 >>= _) _ _ s
  refine wpAny_bind (wpAny_field ho hd (x := .int i 0) rfl ?_)
  show wpAny _ _ (seqItems? (.ref l) >>= _) _ _ s
  refine wpAny_bind (wpAny_seqItems hol hdl ?_)
  simp only [Int.toNat_natCast, hx]
  refine wpAny_bind (wpAny_rule (wpAny_bind (wpAny_setField ho hd (by simp) ?_)))
  show wpAny _ _ (newExc (.type "StopIteration") [] >>= _) _ _ _
  refine wpAny_bind ?_
  simp only [newExc, newTuple]
  refine wpAny_bind (wpAny_newObj_type ?_ (by size_fits))
  refine wpAny_bind (m := firstArgMember _ _) (wpAny_of_eq (a := Value.none) (by
    first | rfl | (simp only [firstArgMember]; rfl)) ?_)
  refine wpAny_newObj_type ?_ (by size_fits)
  have g0 : (s.heap.update it (Obj.mapFields (·.setIfInBounds 0 Value.none))).get? x1 = some ob := (Heap.get?_update_other _ _ (Ne.symm ne)).trans gb
  refine raiseNew_hot ⟨hh, ob, vb, Heap.get?_push_of_some _ (Heap.get?_push_of_some _ g0), db, cb⟩ (Nat.ne_of_lt (Heap.lt_size (Heap.get?_push_of_some _ g0))) (Heap.get?_push_size _ rfl) rfl (by
    first | (simp; done) | (simp; omega) | (simp only [Array.size_append]; simp; omega)) ?_
  refine hE _ _ (fun c oc nc ec => ?_) ⟨_, Heap.get?_update_self _ (Heap.get?_push_size _ rfl) rfl, rfl⟩
  have k0 : (s.heap.update it (Obj.mapFields (·.setIfInBounds 0 Value.none))).get? c = some oc := (Heap.get?_update_other _ _ (Ne.symm nc)).trans ec
  rw [Heap.get?_update_other _ _ (Nat.ne_of_gt (Heap.lt_size (Heap.get?_push_of_some _ k0)))]
  exact Heap.get?_push_of_some _ (Heap.get?_push_of_some _ k0)
theorem nkZip_end {z TI TO i1 i2 l1 l2 x1 : Addr} {k1 k2 : Nat} {xs ys : Array Value} {a b : Value} {Q : Fin → Shared → Prop} (hot : HotAt A x1 s.heap) (nz : x1 ≠ z) (n1 : x1 ≠ i1) (n2 : x1 ≠ i2) (nT : x1 ≠ TO) (D : ZipApart z TI TO i1 i2 l1 l2)
    (hz : IsZip s.heap z TI TO .none) (hTI : IsPair s.heap TI (.ref i1) (.ref i2)) (hTO : IsPair s.heap TO a b) (h1 : s.heap.IsListIter i1 l1 k1) (h2 : s.heap.IsListIter i2 l2 k2)
    (hl1 : s.heap.IsList l1 xs) (hl2 : s.heap.IsList l2 ys) (hend : xs[k1]? = none ∨ ys[k2]? = none)
    (hE : ∀ h' e, (∀ c o, c ≠ z → c ≠ TO → c ≠ i1 → c ≠ i2 → s.heap.get? c = some o → h'.get? c = some o) → (∃ o, h'.get? e = some o ∧ o.cls = .type "StopIteration") → E (.ref e) { s with heap := h' }) :
    wpAny (model prog w) A (Builtin.«zip.__next__» ⟨[.ref z], []⟩) Q E s := by
  obtain ⟨hh, ob, vb, gb, db, cb⟩ := hot
  have notTup : ∀ {h : Heap} {c : Addr} {o : Obj}, h.get? x1 = some ob → h.get? c = some o → (∀ vs, o.data ≠ .fields vs) → x1 ≠ c := fun e1 e2 nf q => by
    rw [q, e2] at e1
    cases e1
    exact nf _ db
  show wpAny _ _ (field (.ref z) 2 >>= _) _ _ _
  refine wpAny_bind (wpAny_field hz rfl (x := .bool false) rfl ?_)
  show wpAny _ _ (field (.ref z) 3 >>= _) _ _ _
  refine wpAny_bind (wpAny_field hz rfl (x := .ref TI) rfl ?_)
  refine wpAny_bind (wpAny_seqItems hTI rfl ?_)
  show wpAny _ _ (Builtin.SmallTypes.ownedTupleIsFree (.ref z) >>= _) _ _ _
  refine wpAny_bind ?_
  unfold Builtin.SmallTypes.ownedTupleIsFree
  refine wpAny_bind (wpAny_field hz rfl (x := .none) rfl (wpAny_pure ?_))
  simp only [if_true]
  refine wpAny_bind (wpAny_rule ?_)
  refine wpAny_bind (wpAny_field hz rfl (x := .ref TO) rfl ?_)
  refine wpAny_bind (wpAny_setField_rec hz (by simp) fun ha hza sa => ?_)
  replace hza : IsZip ha z TI TO .ellipsis := hza
  have ga : ha.get? x1 = some ob := sa.extBut _ _ nz gb
  refine wpAny_bind ?_
  simp only [List.zipIdx_cons, List.zipIdx_nil, List.forIn_cons, List.forIn_nil]
  refine wpAny_bind (wpAny_bind (wpAny_onRaise ?_))
  show wpAny _ _ (Builtin.SmallTypes.nextOf (.ref i1) >>= _) _ _ _
  cases hx : xs[k1]? with
  | none =>
    refine wpAny_bind (nkList_end ⟨hh, ob, vb, ga, db, cb⟩ n1 (h1.extBut sa.extBut D.i1z) (hl1.extBut sa.extBut D.l1z) hx fun hb e sb he => ?_)
    obtain ⟨oe, hoe, hce⟩ := he
    have hzb : IsZip hb z TI TO .ellipsis := sb _ _ D.i1z.symm hza
    have hez : e ≠ z := fun q => by
      subst q
      rw [hzb] at hoe
      cases hoe
      simp at hce
    exact wpAny_setField_rec hzb (by simp) fun hc _ sc => hE hc e (fun c o q1 _ q3 _ q => sc.extBut _ _ q1 (sb _ _ q3 (sa.extBut _ _ q1 q))) ⟨oe, sc.extBut _ _ hez hoe, hce⟩
  | some x =>
    have hy : ys[k2]? = none := by
      rcases hend with h | h
      · rw [hx] at h; cases h
      · exact h
    refine wpAny_bind (wpAny_nextOf_list_item (h1.extBut sa.extBut D.i1z) (hl1.extBut sa.extBut D.l1z) hx fun hb h1b sb => wpAny_pure ?_)
    have hTOb : IsPair hb TO a b := sb.extBut _ _ D.TOi1 (sa.extBut _ _ D.TOz hTO)
    have gb2 : hb.get? x1 = some ob := sb.extBut _ _ n1 ga
    refine wpAny_bind (wpAny_seqItems hTOb rfl ?_)
    refine wpAny_bind (wpAny_updateSeq_pair hTOb fun hc hTOc sc => ?_)
    have gc : hc.get? x1 = some ob := sc.extBut _ _ nT gb2
    refine wpAny_bind (wpAny_letGo (wpAny_pure ?_))
    refine wpAny_bind (wpAny_bind (wpAny_onRaise ?_))
    show wpAny _ _ (Builtin.SmallTypes.nextOf (.ref i2) >>= _) _ _ _
    refine wpAny_bind (nkList_end ⟨hh, ob, vb, gc, db, cb⟩ n2 (((h2.extBut sa.extBut D.i2z).extBut sb.extBut D.i12.symm).extBut sc.extBut D.TOi2.symm) (((hl2.extBut sa.extBut D.l2z).extBut sb.extBut D.l2i1).extBut sc.extBut D.l2TO) hy
      fun hd e sd he => ?_)
    obtain ⟨oe, hoe, hce⟩ := he
    have hzd : IsZip hd z TI TO .ellipsis := sd _ _ D.i2z.symm (sc.extBut _ _ D.TOz.symm (sb.extBut _ _ D.i1z.symm hza))
    have hez : e ≠ z := fun q => by
      subst q
      rw [hzd] at hoe
      cases hoe
      simp at hce
    exact wpAny_setField_rec hzd (by simp) fun hf _ sf => hE hf e (fun c o q1 q2 q3 q4 q => sf.extBut _ _ q1 (sd _ _ q4 (sc.extBut _ _ q2 (sb.extBut _ _ q3 (sa.extBut _ _ q1 q))))) ⟨oe, sf.extBut _ _ hez hoe, hce⟩
theorem nkZip_done {z TI TO i1 i2 l1 l2 x1 : Addr} {k1 k2 : Nat} {xs ys : Array Value} {a b : Value} {Q : Option Value → Shared → Prop} (hot : HotAt A x1 s.heap) (nz : x1 ≠ z) (n1 : x1 ≠ i1) (n2 : x1 ≠ i2) (nT : x1 ≠ TO) (D : ZipApart z TI TO i1 i2 l1 l2)
    (hz : IsZip s.heap z TI TO .none) (hTI : IsPair s.heap TI (.ref i1) (.ref i2)) (hTO : IsPair s.heap TO a b) (h1 : s.heap.IsListIter i1 l1 k1) (h2 : s.heap.IsListIter i2 l2 k2)
    (hl1 : s.heap.IsList l1 xs) (hl2 : s.heap.IsList l2 ys) (hend : xs[k1]? = none ∨ ys[k2]? = none)
    (hQ : ∀ h', (∀ c o, c ≠ z → c ≠ TO → c ≠ i1 → c ≠ i2 → s.heap.get? c = some o → h'.get? c = some o) → Q none { s with heap := h' }) : wpAny (model prog w) A (pyNext (.ref z)) Q E s := by
  have hT : s.TypeIs (.ref z) "zip" := ⟨_, hz, rfl⟩
  unfold pyNext
  refine wpAny_bind (wpAny_attempt (wpAny_callSpecial?_slot (name := Str.ofString "__next__") hT F.slot_zip_next (wpAny_call_entry F.slot_zip_next hT F.entry_zip_next
    (nkZip_end hot nz n1 n2 nT D hz hTI hTO h1 h2 hl1 hl2 hend fun h' e hk he => ?_) (F.args_zip_next_1 _))))
  obtain ⟨o, ho, hc⟩ := he
  refine wpAny_bind (wpAny_isInstance (T := "StopIteration") (b := true) ⟨o, ho, hc⟩ isSubtype_stop ?_)
  exact wpAny_pure (hQ _ hk)
theorem nkTup_end {it t x1 : Addr} {i : Nat} {items : Array Value} {Q : Option Value → Shared → Prop} (hot : HotAt A x1 s.heap) (ne : x1 ≠ it) (hit : IsTupIter s.heap it t i) (ht : IsTup s.heap t items) (hx : items[i]? = none)
    (hQ : ∀ h', Heap.ExtBut it s.heap h' → Q none { s with heap := h' }) : wpAny (model prog w) A (pyNext (.ref it)) Q E s := by
  obtain ⟨hh, ob, vb, gb, db, cb⟩ := hot
  obtain ⟨o, ho, hc, hd⟩ := id hit
  obtain ⟨ol, hol, _, nl, hdl⟩ := ht
  unfold pyNext
  refine wpAny_bind (wpAny_attempt (wpAny_callSpecial?_slot (name := Str.ofString "__next__") hit.typeIs slot_tupleiter_next (wpAny_call_entry slot_tupleiter_next hit.typeIs
    entry_tupleiter_next ?_ (args_tupleiter_next _))))
  show wpAny _ _ (field (.ref it) 0 >>= _) _ _ s
  refine wpAny_bind (wpAny_field ho hd (x := .ref t) rfl ?_)
  show wpAny _ _ (if (Value.ref t == Value.none) = true then _ else _) _ _ s
  rw [if_neg (by exact Bool.false_ne_true : ¬ ((Value.ref t == Value.none) = true))]
  show wpAny _ _ (field (.ref it) 1 >>= _) _ _ s
  refine wpAny_bind (wpAny_field ho hd (x := .int i 0) rfl ?_)
  show wpAny _ _ (seqItems? (.ref t) >>= _) _ _ s
  refine wpAny_bind (wpAny_seqItems hol hdl ?_)
  simp only [Int.toNat_natCast, hx]
  refine wpAny_bind (wpAny_rule (wpAny_bind (wpAny_setField ho hd (by simp) ?_)))
  show wpAny _ _ (newExc (.type "StopIteration") [] >>= _) _ _ _
  refine wpAny_bind ?_
  simp only [newExc, newTuple]
  refine wpAny_bind (wpAny_newObj_type ?_ (by size_fits))
  refine wpAny_bind (m := firstArgMember _ _) (wpAny_of_eq (a := Value.none) (by
    first | rfl | (simp only [firstArgMember]; rfl)) ?_)
  refine wpAny_newObj_type ?_ (by size_fits)
  have g0 : (s.heap.update it (Obj.mapFields (·.setIfInBounds 0 Value.none))).get? x1 = some ob := (Heap.get?_update_other _ _ (Ne.symm ne)).trans gb
  refine raiseNew_hot ⟨hh, ob, vb, Heap.get?_push_of_some _ (Heap.get?_push_of_some _ g0), db, cb⟩ (Nat.ne_of_lt (Heap.lt_size (Heap.get?_push_of_some _ g0))) (Heap.get?_push_size _ rfl) rfl (by
    first | (simp; done) | (simp; omega) | (simp only [Array.size_append]; simp; omega)) ?_
  refine wpAny_bind (wpAny_isInstance (T := "StopIteration") (b := true) ⟨_, Heap.get?_update_self _ (Heap.get?_push_size _ rfl) rfl, rfl⟩ isSubtype_stop ?_)
  refine wpAny_pure (hQ _ fun c oc nc ec => ?_)
  have k0 : (s.heap.update it (Obj.mapFields (·.setIfInBounds 0 Value.none))).get? c = some oc := (Heap.get?_update_other _ _ (Ne.symm nc)).trans ec
  rw [Heap.get?_update_other _ _ (Nat.ne_of_gt (Heap.lt_size (Heap.get?_push_of_some _ k0)))]
  exact Heap.get?_push_of_some _ (Heap.get?_push_of_some _ k0)
theorem nkUnpack {t x1 : Addr} {items : Array Value} {targets : List (Bool × (Value → Sem Unit))} {Q : Unit → Shared → Prop} (hot : HotAt A x1 s.heap) (ht : IsTup s.heap t items) (hn : targets.length = items.size) (hstar : targets.findIdx? (·.1) = none)
    (h : ∀ h', Heap.ExtBut s.heap.objs.size s.heap h' → wpAny (model prog w) A (assignInOrder (targets.map (·.2)) items.toList) Q E { s with heap := h' }) : wpAny (model prog w) A (unpack (.ref t) targets) Q E s := by
  unfold unpack
  rw [hn, hstar]
  refine wpAny_bind (wpAny_holding ?_)
  obtain ⟨hh, ob, vb, gb, db, cb⟩ := hot
  have hlt : t ≠ s.heap.objs.size := by
    obtain ⟨o, ho, _⟩ := ht
    exact Nat.ne_of_lt (Heap.lt_size ho)
  have hx1 : x1 ≠ s.heap.objs.size := Nat.ne_of_lt (Heap.lt_size gb)
  unfold unpackItems
  refine wpAny_bind ?_
  unfold notIterableAtAll
  refine wpAny_bind (wpAny_specialOf ht.typeIs slot_tuple_iter.lookup ?_)
  refine wpAny_pure ?_
  simp only [Bool.false_eq_true, if_false]
  refine wpAny_bind (wpAny_holding (iter_tuple ht ?_))
  refine wpAny_bind (wpAny_holding (draw_tuple hlt items.size 0 _ _ ⟨_, Heap.get?_push_size _ rfl, rfl, rfl⟩ (ht.push _) (by omega) fun ha hita sa => ?_))
  have hall : List.take items.size (List.drop 0 items.toList) = items.toList := by
    rw [List.drop_zero]
    exact List.take_of_length_le (by simp)
  rw [hall, if_neg (by simp)]
  have hta : IsTup ha t items := (ht.push _).extBut sa.extBut hlt
  have ga : ha.get? x1 = some ob := sa.extBut _ _ hx1 (Heap.get?_push_of_some _ gb)
  refine wpAny_bind (wpAny_holding (nkTup_end ⟨hh, ob, vb, ga, db, cb⟩ hx1 hita hta (by simp) fun hb eb => ?_))
  simp only [Option.isSome_none, Bool.false_eq_true, if_false]
  exact wpAny_pure (h hb fun c o nc e => eb c o nc (sa.extBut c o nc (Heap.get?_push_of_some _ e)))
theorem nkAssign {env : Env} {elts : List Expr} {kk : Nat} {pos : Pos} {t x1 : Addr} {items : Array Value} {Q : Unit → Shared → Prop} (hot : HotAt A x1 s.heap) (ht : IsTup s.heap t items)
    (hn : (assignEach elts env).length = items.size) (hstar : (assignEach elts env).findIdx? (·.1) = none)
    (h : ∀ h', Heap.ExtBut s.heap.objs.size s.heap h' → wpAny (model prog w) A (assignInOrder ((assignEach elts env).map (·.2)) items.toList) Q E { s with heap := h' }) :
    wpAny (model prog w) A (assign (.Tuple elts kk pos) env (.ref t)) Q E s := by
  rw [assign_Tuple]
  exact wpAny_bind (wpAny_standAt (nkUnpack hot ht hn hstar h))
end
end PySem
end
section
set_option Elab.async false
set_option linter.all false
set_option maxRecDepth 100000
set_option maxHeartbeats 4000000
/-! a comprehension over two lists while an exception is handled -/
namespace Nk
open PySem PySem.Spec PyProof.Rows L2 HotX
/-- the walk's state -/
abbrev ZSt (z TI TO i1 i2 a b : Addr) (i : Nat) (h : Heap) : Prop := IsZip h z TI TO .none ∧ IsPair h TI (.ref i1) (.ref i2) ∧ (∃ x y, IsPair h TO x y) ∧ h.IsListIter i1 a i ∧ h.IsListIter i2 b i
section
variable {X : Cx} {pins : List (Addr × Obj)} {σ : L2.St} {H : Hp} {s : Shared} {E : Value → Shared → Prop} {z TI TO i1 i2 a b : Addr} {i : Nat}
theorem zq_obj {h : Heap} (st : ZSt z TI TO i1 i2 a b i h) : ∀ c ∈ [z, TI, TO, i1, i2], ∃ o, h.get? c = some o ∧ ∀ v, o.data ≠ .cell v := fun c hc => by
  obtain ⟨hz, hTI, ⟨x, y, hTO⟩, ⟨o1, e1, _, d1⟩, ⟨o2, e2, _, d2⟩⟩ := st
  have e' : c = z ∨ c = TI ∨ c = TO ∨ c = i1 ∨ c = i2 := by simpa using hc
  rcases e' with q | q | q | q | q <;> rw [q]
  · exact ⟨_, hz, fun v q => nomatch q⟩
  · exact ⟨_, hTI, fun v q => nomatch q⟩
  · exact ⟨_, hTO, fun v q => nomatch q⟩
  · exact ⟨o1, e1, fun v q => by rw [d1] at q; cases q⟩
  · exact ⟨o2, e2, fun v q => by rw [d2] at q; cases q⟩
theorem zq_keep {h h' : Heap} (st : ZSt z TI TO i1 i2 a b i h) (k : ∀ c ∈ [z, TI, TO, i1, i2], ∀ o, h.get? c = some o → h'.get? c = some o) : ZSt z TI TO i1 i2 a b i h' := by
  obtain ⟨hz, hTI, ⟨x, y, hTO⟩, h1, h2⟩ := st
  exact ⟨k z (by simp) _ hz, k TI (by simp) _ hTI, ⟨x, y, k TO (by simp) _ hTO⟩, h1.at fun o q => k i1 (by simp) o q, h2.at fun o q => k i2 (by simp) o q⟩
theorem zq_item {elts : List Expr} {kk : Nat} {tpos : Pos} (D : ZipApart z TI TO i1 i2 a b) (I : Inv X pins σ H s) (hf : ∀ c ∈ [z, TI, TO, i1, i2], FpOk X pins H c) (st : ZSt z TI TO i1 i2 a b i s.heap) (go : (Itz X.K a b).go i H) :
    wpAny (model X.prog X.w) X.A (pyNext (.ref z)) (fun r s1 => ∃ u, r = some u ∧ wpAny (model X.prog X.w) X.A (letOwnedTupleGo (.Tuple elts kk tpos) (.ref z) u)
      (fun _ s2 => ∃ x H', Inv X pins σ H' s2 ∧ RelV x u ∧ (Itz X.K a b).yld i H x H' ∧ ZSt z TI TO i1 i2 a b (i + 1) s2.heap ∧ ∀ c ∈ [z, TI, TO, i1, i2], H' c = none) E s1) E s := by
  obtain ⟨hz, hTI, ⟨x0, y0, hTO⟩, h1, h2⟩ := st
  obtain ⟨xs, ys, x, y, qx, qy, hx, hy⟩ := go
  obtain ⟨its, rv, p, _⟩ := I.list qx
  obtain ⟨its2, rv2, p2, _⟩ := I.list qy
  obtain ⟨u, hu, ru⟩ := rv.get hx
  obtain ⟨u2, hu2, ru2⟩ := rv2.get hy
  have below : ∀ c ∈ [z, TI, TO, i1, i2], c < s.heap.objs.size := fun c hc => by
    obtain ⟨o, e, _⟩ := zq_obj ⟨hz, hTI, ⟨x0, y0, hTO⟩, h1, h2⟩ c hc
    exact Heap.lt_size e
  refine wpAny_pyNext_zip_item D hz hTI hTO h1 h2 p.isList p2.isList (x := u) (y := u2) (by simpa using hu) (by simpa using hu2) fun h' z' TO' h1' h2' hT hsz hk => ?_
  refine ⟨_, rfl, wpAny_letOwnedTupleGo_zip (s := { s with heap := h' }) z' fun h'' z'' sb => ?_⟩
  have hT2 : h''.get? s.heap.objs.size = some { cls := .type "tuple", data := .seq #[u, u2] } := (sb.2 _ (Nat.ne_of_gt (below z (by simp)))).trans hT
  have new : ObjOk X.prog X.w (upd H s.heap.objs.size (.tup [x, y])) h'' s.heap.objs.size (.tup [x, y]) :=
    ⟨by show 2 ≤ sizeLine; decide, [u, u2], .cons ru (.cons ru2 .nil), ⟨_, hT2, rfl, _, rfl⟩⟩
  have I1 : Inv X pins σ (upd H s.heap.objs.size (.tup [x, y])) { s with heap := h'' } := I.turnedNew (t' := s.toks) (ch := [z, TI, TO, i1, i2]) (fun c o hb q => by
    simp at hb
    exact (sb.2 c (fun q' => hb.1 q')).trans (hk c o hb.1 hb.2.2.1 hb.2.2.2.1 hb.2.2.2.2 q)) hf (Nat.le_refl _) new
  refine ⟨.ref s.heap.objs.size, _, I1, rfl, ⟨_, x, y, rfl, I.hok.fresh (Nat.le_refl _), rfl, fun l hl => by rw [I.list_inj hl qx]; exact hx, fun l hl => by rw [I.list_inj hl qy]; exact hy⟩, ⟨z'', ?_, ⟨u, u2, ?_⟩, ?_, ?_⟩, fun c hcm => ?_⟩
  · exact (sb.2 _ D.TIz).trans (hk _ _ D.TIz D.TITO D.TIi1 D.TIi2 hTI)
  · exact (sb.2 _ D.TOz).trans TO'
  · exact h1'.at fun o q => (sb.2 _ D.i1z).trans q
  · exact h2'.at fun o q => (sb.2 _ D.i2z).trans q
  · rw [upd_ne (Nat.ne_of_lt (below c hcm))]
    exact (hf c hcm).1
theorem zq_done {x1 : Addr} (D : ZipApart z TI TO i1 i2 a b) (hot : HotAt X.A x1 s.heap) (ne : ∀ c ∈ [z, TI, TO, i1, i2], x1 ≠ c) (I : Inv X pins σ H s) (hf : ∀ c ∈ [z, TI, TO, i1, i2], FpOk X pins H c) (st : ZSt z TI TO i1 i2 a b i s.heap) (stop : (Itz X.K a b).stop i H) :
    wpAny (model X.prog X.w) X.A (pyNext (.ref z)) (fun r s1 => r = none ∧ Inv X pins σ H s1) E s := by
  obtain ⟨hz, hTI, ⟨x0, y0, hTO⟩, h1, h2⟩ := st
  obtain ⟨xs, ys, qx, qy, hend⟩ := stop
  obtain ⟨its, rv, p, _⟩ := I.list qx
  obtain ⟨its2, rv2, p2, _⟩ := I.list qy
  have l1 := rv.length
  have l2 := rv2.length
  have he : its.toArray[i]? = none ∨ its2.toArray[i]? = none := hend.imp (fun q => by simp; omega) fun q => by simp; omega
  exact nkZip_done hot (ne z (by simp)) (ne i1 (by simp)) (ne i2 (by simp)) (ne TO (by simp)) D hz hTI hTO h1 h2 p.isList p2.isList he fun h' hk => ⟨rfl, I.turnedL (t' := s.toks) (ch := [z, TI, TO, i1, i2]) (fun c o hb q => by
    simp at hb
    exact hk c o hb.1 hb.2.2.1 hb.2.2.2.1 hb.2.2.2.2 q) hf⟩
end
section
variable {X : Cx}
/-- what is known of the handled exception when a block starts -/
structure HotB (X : Cx) (p : Addr × Obj) (s : Shared) (H : Hp) (fp : List Addr) : Prop where
  hot : L2H.Hot1 X.A p
  get : s.heap.get? p.1 = some p.2
  free : H p.1 = none
  nofs : p.1 ∉ frs X.stack
  nofp : ∀ c ∈ fp, p.1 ≠ c
theorem HotB.at {p : Addr × Obj} {s : Shared} {H : Hp} {fp : List Addr} (h : HotB X p s H fp) {scope : Scope} {ce : PySem.Env} {pins : List (Addr × Obj)} {σ : L2.St} {H' : Hp} {s' : Shared} (I : Inv (X.blk s H scope ce fp) pins σ H' s') : HotAt (X.blk s H scope ce fp).A p.1 s'.heap := by
  obtain ⟨⟨hh, v, e, c⟩, h2, h3, h4, h5⟩ := h
  exact ⟨hh, p.2, v, I.base.keep p.1 p.2 h2 h3 h4 (fun hm => h5 p.1 hm rfl), e, c⟩
theorem pg_tupH {p : Addr × Obj} {s : Shared} {H : Hp} {fp : List Addr} (hb : HotB X p s H fp) {scope : Scope} {ce : PySem.Env} {es : List Expr} {kk n : Nat} {pos : Pos} {t : TGs} (h : PGs (X.blk s H scope ce fp) es t)
    (hn : (assignEach es (X.blk s H scope ce fp).env).length = n) (hst : (assignEach es (X.blk s H scope ce fp).env).findIdx? (·.1) = none) : PG (X.blk s H scope ce fp) (.Tuple es kk pos) (gTup X.K n t) := by
  refine ⟨fun pins s' σ H' v u Q I r hw => ?_⟩
  obtain ⟨a, xs, e1, hq, hl, hw⟩ := hw
  subst e1
  cases r
  obtain ⟨its, rv, ht, hz⟩ := I.tuple hq
  refine nkAssign (hb.at I) ht (by simp [hn, ← hl, rv.length]) hst fun h' hx => ?_
  have I1 := I.kept (h' := h') (t' := s'.toks) fun b o e => hx b o (Nat.ne_of_lt (Heap.lt_size e)) e
  exact h.run pins _ σ H' xs _ Q I1 (by simpa using rv) hw
theorem pe_lcH {elt a1 a2 : Expr} {elts : List Expr} {kk : Nat} {tpos q1 q2 pos : Pos} {ifs : List Expr} {scope : Scope} {own : List (Str × Nat)} {ta : TA} {g : TG} {tt : TT} {te : TE} (hot : L2H.HotC X) (nd : X.N.Nodup) (gz : Gl X "zip") (mz : X.mg "zip" = none) (ha : PA X [a1, a2] ta)
    (hst : starEach [a1, a2] X.env = (false, eval a1 X.env) :: starEach [a2] X.env) (hpl : (backTo q2 (starEach [a2] X.env)).any (·.1) = false) (ok : BlkOk X.N X.env.scope scope own)
    (hg : ∀ (p : Addr × Obj) (s : Shared) (H : Hp) (C : Addr) (cl : List (Str × Addr)) (fp : List Addr), HotB X p s H fp → PG (X.blk s H scope (compEnvC scope cl C X.env) fp) (.Tuple elts kk tpos) g)
    (ht : ∀ (s : Shared) (H : Hp) (C : Addr) (cl : List (Str × Addr)) (fp : List Addr), PTs (X.blk s H scope (compEnvC scope cl C X.env) fp) ifs tt)
    (he : ∀ (s : Shared) (H : Hp) (C : Addr) (cl : List (Str × Addr)) (fp : List Addr), PE (X.blk s H scope (compEnvC scope cl C X.env) fp) elt te) :
    PE X (.ListComp elt [⟨.Tuple elts kk tpos, .Call (.Name "zip" q1) [a1, a2] [] q2, ifs, 0⟩] scope pos) (tLc (iZip X.K ta) g tt te (own.map (·.2))) := by
  refine ⟨fun pins s σ H Q I h => ?_⟩
  obtain ⟨p, ⟨handled, vp, datp, ctxp⟩, pin⟩ := hot
  rw [eval_ListComp]
  have free : ∀ y ∈ scope.names, y.2 = .free → ∃ c, X.env.cells.lookup y.1 = some c := fun y hy e => by
    rcases ok.free y hy e with k | k
    · exact I.ok.has _ (.inl k)
    · exact I.ok.has _ (.inr k)
  refine wpAny_comprehension_free (use := none) rfl (fun _ => rfl) (closure_ok free) ok.kind (fun y hy e => by rw [ok.uniq y hy, e]) ?_
  refine Call_ (ld_blt I gz mz PyProof.Rows.boot_zip (PyProof.Rows.callWith_type1 (thn (ha.run q2 pins s σ H _ I h) fun us s1 ⟨vs, H1, I1, r1, w1⟩ => ?_) hst hpl))
  obtain ⟨a, b, xs, ys, ex, hqx, hqy, q⟩ := w1
  subst ex
  cases r1 with
  | cons r rr =>
  cases rr with
  | cons r' rr =>
  cases rr
  cases r
  cases r'
  obtain ⟨its, rv, p1, _⟩ := I1.list hqx
  obtain ⟨its2, rv2, p2, _⟩ := I1.list hqy
  refine call_zip_2 p1.isList p2.isList fun h' hz hTI hTO z1 z2 hsz hk => wpAny_pyIter_zip hz ?_
  have I2 : Inv X pins σ H1 { s1 with heap := h' } := I1.kept (t' := s1.toks) hk
  have D0 := PySem.W.ktu_apart s1.heap.objs.size a b p1.lt p2.lt
  generalize hZ : s1.heap.objs.size + 4 = z at hz D0 ⊢
  generalize hI2 : s1.heap.objs.size + 1 = i2 at hTI z2 D0 ⊢
  generalize hT1 : s1.heap.objs.size + 2 = TI at hz hTI D0 ⊢
  generalize hT2 : s1.heap.objs.size + 3 = TO at hz hTO D0 ⊢
  have fresh : ∀ c ∈ [z, TI, TO, s1.heap.objs.size, i2], s1.heap.objs.size ≤ c := fun c hc => by
    simp at hc
    omega
  generalize hI1 : s1.heap.objs.size = i1 at hTI z1 D0 fresh ⊢
  have f2 : ∀ c ∈ [z, TI, TO, i1, i2], FpOk X pins H1 c := fun c hc => by
    have hle : s1.heap.objs.size ≤ c := by rw [hI1]; exact fresh c hc
    exact I1.fpOk hle (I1.hok.fresh hle)
  have st2 : ZSt z TI TO i1 i2 a b 0 h' := ⟨hz, hTI, ⟨_, _, hTO⟩, z1, z2⟩
  generalize hs2 : ({ s1 with heap := h' } : Shared) = s2 at I2 ⊢
  have st2 : ZSt z TI TO i1 i2 a b 0 s2.heap := by rw [← hs2]; exact st2
  refine wpAny_newObj_type (newEnv_comp ?_) (by show 0 ≤ sizeLine; decide)
  generalize hfp : [z, TI, TO, i1, i2] = fp at f2 fresh ⊢
  generalize hD : s2.heap.objs.size = LL
  have hDn : H1 LL = none := I2.hok.fresh (Nat.le_of_eq hD)
  obtain ⟨W, ⟨m0, w0⟩, turn⟩ := q LL hDn
  generalize hs3 : ({ s2 with heap := s2.heap.push { cls := .type "list", data := .seq ([] : List Value).toArray } } : Shared) = s3
  have I3 : Inv X pins σ (upd H1 LL (.lst [])) s3 := by
    rw [← hs3]
    refine I2.laid (t' := s2.toks) (fun b o e => Heap.get?_push_of_some _ e) (Nat.le_of_eq hD) ⟨Nat.zero_le _, [], 0, .nil, ?_⟩
    rw [← hD]
    exact Heap.get?_push_size _ rfl
  have h3 : s3.heap = s2.heap.push { cls := .type "list", data := .seq ([] : List Value).toArray } := by rw [← hs3]
  have there : ∀ c ∈ fp, c < s2.heap.objs.size := fun c hc => by
    obtain ⟨o, e, _⟩ := zq_obj st2 c (by rw [hfp]; exact hc)
    exact Heap.lt_size e
  have f3 : ∀ c ∈ fp, FpOk X pins (upd H1 LL (.lst [])) c ∧ c < s3.heap.objs.size := fun c hc => by
    have hlt := there c hc
    refine ⟨⟨?_, (f2 c hc).2⟩, by rw [h3, Heap.size_push]; exact Nat.lt_succ_of_lt hlt⟩
    rw [upd_ne (by rw [← hD]; exact Nat.ne_of_lt hlt)]
    exact (f2 c hc).1
  have st3 : ZSt z TI TO i1 i2 a b 0 s3.heap := zq_keep st2 fun c _ o e => by rw [h3]; exact Heap.get?_push_of_some _ e
  have I4 := block_start I3 ok nd f3
  have P3 := I3.pin p (List.mem_append_left _ pin)
  have pst : p.1 ∉ frs X.stack := fun hm => (List.mem_cons.mp (I3.stkSub p.1 hm)).elim P3.2.2.1 P3.2.2.2.1
  have pfp : ∀ c ∈ fp, p.1 ≠ c := fun c hc => (f3 c hc).1.2.2.2.2.2 p (List.mem_append_left _ pin)
  generalize hcl : cellsFrom (s3.heap.objs.size + 1) scope.names (cloFrom X.env.cells scope.names []) = cl at I4 ⊢
  have pg := hg p s3 (upd H1 LL (.lst [])) s3.heap.objs.size cl fp ⟨⟨handled, vp, datp, ctxp⟩, P3.1, P3.2.1, pst, pfp⟩
  have pt := ht s3 (upd H1 LL (.lst [])) s3.heap.objs.size cl fp
  have pe := he s3 (upd H1 LL (.lst [])) s3.heap.objs.size cl fp
  show codeAny _ _ (.compStart _ 0 (.ref z) (.ref LL) (compEnvC scope cl s3.heap.objs.size X.env)) _ { s3 with heap := pushCells (s3.heap.push { cls := .type "dict", data := .dict #[] }) scope.names }
  have nfp : ∀ c ∈ fp, (upd H1 LL (.lst [])) c = none := fun c hc => (f3 c hc).1.1
  generalize hce : compEnvC scope cl s3.heap.objs.size X.env = ce at I4 pg pt pe ⊢
  have cL : ce.locals = s3.heap.objs.size := by subst hce; rfl
  generalize hH3 : upd H1 LL (.lst []) = H3 at I3 I4 P3 pg pt pe w0 nfp f3
  generalize hs4 : ({ s3 with heap := pushCells (s3.heap.push { cls := .type "dict", data := .dict #[] }) scope.names } : Shared) = s4 at I4 ⊢
  have st4 : ZSt z TI TO i1 i2 a b 0 s4.heap := zq_keep st3 fun c _ o e => by rw [← hs4]; exact pushCells_keeps _ _ _ _ (Heap.get?_push_of_some _ e)
  have stat : ∀ {σ' : L2.St} {H' : Hp} {s' : Shared}, Inv (X.blk s3 H3 scope ce fp) [] σ' H' s' → (∀ c ∈ fp, H' c = none) → ∀ c ∈ fp, FpOk (X.blk s3 H3 scope ce fp) [] H' c := fun {σ' H' s'} I' hn c hc =>
    ⟨hn c hc, (I'.ok.exf c hc).1, I'.ok.exfs c hc, .inl hc, fun x cc e => (I'.ok.exf c hc).2 x cc e, fun pp hp => absurd (show pp ∈ ([] : List (Addr × Obj)) ++ [] from hp) (by simp)⟩
  refine (fun loop => codeAny_compStart_list loop (wpAny_pyIter_zip st4.1 loop)) ?_
  refine compLoop_any (fun n s' => ∃ i H', Inv (X.blk s3 H3 scope ce fp) [] (wipe σ (own.map (·.2))) H' s' ∧ ZSt z TI TO i1 i2 a b i s'.heap ∧ (∀ c ∈ fp, H' c = none) ∧ W i n H') ?_ m0 ⟨0, H3, I4, st4, nfp, w0⟩
  rintro n s5 ⟨i, H5, I5, st5, n5, w5⟩
  have hot5 : HotAt (X.blk s3 H3 scope ce fp).A p.1 s5.heap := ⟨handled, p.2, vp, I5.base.keep p.1 p.2 P3.1 P3.2.1 pst (fun hm => pfp p.1 hm rfl), datp, ctxp⟩
  have stat5 := stat I5 n5
  rcases turn i n H5 w5 with ⟨stop, qq⟩ | ⟨go, Nx, hNx, step⟩
  · refine thnF (zq_done (X := X.blk s3 H3 scope ce fp) (E := fun _ _ => False) D0 hot5 (by rw [hfp]; exact pfp) I5 (by rw [hfp]; exact stat5) st5 stop) fun r s6 ⟨hr, I6⟩ => ?_
    subst hr
    have I7 : Inv X pins σ H5 s6 := I3.call' (ch := fp) I6.os I6.base I6.hok I6.bare fun c hc => ⟨(f3 c hc).1.2.2.2.1, (f3 c hc).1.2.1, (f3 c hc).1.2.2.2.2.1, (f3 c hc).1.2.2.2.2.2⟩
    have nC : H5 s3.heap.objs.size = none := by
      have zz : H5 ce.locals = none := I6.free
      rw [cL] at zz
      exact zz
    obtain ⟨m, hn, _⟩ := I6.loc
    have hn : s6.heap.Ns ce.locals m := hn
    rw [cL] at hn
    have ff := I3.fpOk (Nat.le_refl _) nC
    obtain ⟨g0, g1, g2, g3, g4, g5⟩ := ff
    exact ⟨m, hn, fun h'' sb => ⟨.ref LL, H5, I7.turned (t' := s6.toks) (fun b o hb e => (sb.2 b hb).trans e) g0 g1 g3 g4 g5, rfl, qq⟩⟩
  · refine thnF (zq_item (elts := elts) (kk := kk) (tpos := tpos) (X := X.blk s3 H3 scope ce fp) (E := fun _ _ => False) D0 I5 (by rw [hfp]; exact stat5) st5 go) fun r s6 ⟨u, hr, h6⟩ => ?_
    subst hr
    refine thnF h6 fun _ s7 ⟨x, H7, I7, r7, y7, st7, n7⟩ => ?_
    rw [hfp] at n7
    have obj7 : ∀ c ∈ fp, ∃ o, s7.heap.get? c = some o ∧ ∀ v, o.data ≠ .cell v := by rw [← hfp]; exact zq_obj st7
    have I7' := I7.pinned (stat I7 n7) obj7
    refine thnF (pg.run _ s7 _ H7 x u _ I7' r7 (step x H7 y7)) fun _ s8 ⟨σ8, H8, I8, hw8, q8⟩ => ?_
    refine thnF (pt.run _ s8 σ8 H8 _ I8 q8) fun bb s9 ⟨H9, I9, q9⟩ => ?_
    have fin : ∀ {s' : Shared} {H' : Hp}, Inv (X.blk s3 H3 scope ce fp) ([] ++ pinsAt fp s7.heap) σ8 H' s' → Nx H' →
        ∃ m, m < n ∧ ∃ i H', Inv (X.blk s3 H3 scope ce fp) [] (wipe σ (own.map (·.2))) H' s' ∧ ZSt z TI TO i1 i2 a b i s'.heap ∧ (∀ c ∈ fp, H' c = none) ∧ W i m H' := fun {s' H'} I' nx => by
      obtain ⟨m', hm, w'⟩ := hNx H' nx
      have pin' : ∀ c ∈ fp, ∀ o, s7.heap.get? c = some o → s'.heap.get? c = some o ∧ H' c = none := fun c hc o e =>
        let zz := I'.pin (c, o) (List.mem_append_right _ (List.mem_append_right _ (mem_pinsAt hc e)))
        ⟨zz.1, zz.2.1⟩
      have hl : (wipe σ (own.map (·.2))).length = σ8.length := by rw [← hw8, wipe_length]
      refine ⟨m', hm, i + 1, H', (I'.unpinned (pins := [])).weak hl (fun j v e => ?_), zq_keep st7 (by rw [hfp]; exact fun c hc o e => (pin' c hc o e).1), fun c hc => ?_, w'⟩
      · rw [← hw8] at e
        exact (wipe_some e).1
      · obtain ⟨o, e, _⟩ := obj7 c hc
        exact (pin' c hc o e).2
    cases bb with
    | false =>
      simp only [Bool.false_eq_true, if_false] at q9 ⊢
      exact fin I9 q9
    | true =>
      simp only [if_true] at q9 ⊢
      refine thnF (pe.run _ s9 σ8 H9 _ I9 q9) fun zv s10 ⟨yv, H10, I10, r10, acc, hD10, hz10, nx⟩ => ?_
      exact app_ok (X := X.blk s3 H3 scope ce fp) I10 hD10 hz10 r10 fun s11 I11 => fin I11 nx
end
end Nk
end
section
set_option Elab.async false
set_option linter.all false
set_option maxRecDepth 100000
set_option maxHeartbeats 4000000
/-! _law_names, called while the error is handled -/
namespace Nk
open PySem PySem.Spec PyProof.Rows L2 HotX
def DOk (d : Option Addr) (H : Hp) : Prop := ∀ dd, d = some dd → ∃ fs, H dd = some (.xd fs)
theorem DOk.ext {d : Option Addr} {H H' : Hp} (h : DOk d H) (e : ∀ b o, H b = some o → H' b = some o) : DOk d H' := fun dd hd => by
  obtain ⟨fs, q⟩ := h dd hd
  exact ⟨fs, e _ _ q⟩
def rIsP (K : PySem.W.Frag) (D a : Addr) (d : Option Addr) : List V → Hp → VK → Prop := fun xs H Q => ∃ (c : V) (cv : Value) (b : Bool), xs = [.ref a, c] ∧ (∀ u, RelV c u → u = cv) ∧ PySem.W.kitOne K (.ref D) cv = some b ∧ DOk d H ∧ Q (.bl b) H
theorem call_isP {X : Cx} {a D : Addr} {d : Option Addr} {oe : Obj} (C : L2.ExcC X.K D) (hz : Zc (.ref D) d oe) (hf : ∃ vs, oe.data = .fields vs) (mem : (a, oe) ∈ X.pn) : CallR X (.builtin "isinstance") (rIsP X.K D a d) := by
  intro pinz s σ H xs us Q I r h
  obtain ⟨c, cv, b, rfl, hcv, e, dok, q⟩ := h
  cases r with
  | cons rx rr =>
    cases rr with
    | cons rt rr =>
      cases rr
      cases rx
      have ec := hcv _ rt
      subst ec
      obtain ⟨hget, _⟩ := I.pin (a, oe) (List.mem_append_left _ mem)
      obtain ⟨vs, hv⟩ := hf
      obtain ⟨cdD, hcD, _⟩ := PySem.W.any_some C.hd
      have fin : ∀ tk, EP X pinz σ Q (.bool b) { s with toks := tk } := fun tk => ⟨.bl b, H, I.kept (t' := tk) fun _ _ z => z, rfl, q⟩
      cases d with
      | none =>
        have J : PySem.W.InstAt s.heap a oe D none := ⟨hget, hz.1, by unfold PySem.W.notCls; rw [hv] <;> rfl, by rw [hz.2]; trivial⟩
        exact PySem.W.kia_one (PySem.W.kitx_exc (od := none) (by rw [hcD]; rfl) C.hg C.hk C.hs C.ha C.hn C.ht C.hm) I.kIn J e (fun z => nomatch z) fin
      | some dd =>
        obtain ⟨fs, ea⟩ := dok dd rfl
        have hx : ObjOk X.prog X.w H s.heap dd (.xd fs) := I.hok dd _ ea
        obtain ⟨mA, hns, hr⟩ := hx
        obtain ⟨od, ho, hl⟩ := lookIn_ns hns
        have J : PySem.W.InstAt s.heap a oe D (some od) := ⟨hget, hz.1, by unfold PySem.W.notCls; rw [hv] <;> rfl, by rw [hz.2]; exact ho⟩
        exact PySem.W.kia_one (PySem.W.kitx_exc (od := some od) (by rw [hcD]; rfl) C.hg C.hk C.hs C.ha C.hn C.ht C.hm) I.kIn J e (fun z => nomatch z) fin
def askL : List Str := ["InvalidNesting", "InvalidKind", "InvalidProgram", "InvalidPlace", "InvalidPicks", "InvalidWay", "InvalidNumber", "InvalidText", "Unlike", "TooMany"]
structure NmF (K : PySem.W.Frag) (mg : Str → Option Value) (D : Addr) (b : Str → Bool) : Prop where
  exc : L2.ExcC K D
  cls : ∀ C ∈ askL, ∃ ca, mg C = some (.ref ca) ∧ PySem.W.kitOne K (.ref D) (.ref ca) = some (b C)
  val : PySem.W.kitOne K (.ref D) (.type "ValueError") = some true
  gi : mg "isinstance" = none
  gz : mg "zip" = none
  gv : mg "ValueError" = none
/-- the reading of isinstance(e, C) -/
def tIs (a : Addr) (d : Option Addr) (b : Bool) : TE := fun σ H Q => σ[0]? = some (some (.ref a)) ∧ DOk d H ∧ Q (.bl b) H
section
variable {X : Cx} {a D : Addr} {d : Option Addr} {oe : Obj} {b : Str → Bool}
theorem pe_isC (F : NmF X.K X.mg D b) (hz : Zc (.ref D) d oe) (hf : ∃ vs, oe.data = .fields vs) (mem : (a, oe) ∈ X.pn) (g1 : Gl X "isinstance") (hN : X.N[0]? = some ("_law_e" : Str)) (hv : Vis X.env.scope "_law_e") {C : Str} (hC : C ∈ askL) (gC : Gl X C) (dC : (C == ("__debug__" : Str)) = false) {p1 p2 p3 p4 : Pos} :
    PE X (.Call (.Name "isinstance" p1) [.Name "_law_e" p2, .Name C p3] [] p4) (tIs a d (b C)) := by
  obtain ⟨ca, m1, k1⟩ := F.cls C hC
  refine PE.imp (pe_callB (call_isP F.exc hz hf mem) g1 F.gi (by decide +kernel) (pa_cons (pe_var (i := 0) hN hv) (pa_cons (pe_glob gC m1 (v := .ref ca) rfl dC) pa_nil))) fun σ H Q ⟨h1, h2, h3⟩ => ?_
  exact ⟨_, h1, .ref ca, .ref ca, b C, rfl, fun u r => r, k1, h2, h3⟩
theorem pe_isV (F : NmF X.K X.mg D b) (hz : Zc (.ref D) d oe) (hf : ∃ vs, oe.data = .fields vs) (mem : (a, oe) ∈ X.pn) (g1 : Gl X "isinstance") (hN : X.N[0]? = some ("_law_e" : Str)) (hv : Vis X.env.scope "_law_e") (gC : Gl X "ValueError") {p1 p2 p3 p4 : Pos} :
    PE X (.Call (.Name "isinstance" p1) [.Name "_law_e" p2, .Name "ValueError" p3] [] p4) (tIs a d true) := by
  refine PE.imp (pe_callB (call_isP F.exc hz hf mem) g1 F.gi (by decide +kernel) (pa_cons (pe_var (i := 0) hN hv) (pa_cons (pe_bltn gC F.gv (by decide +kernel) (v := .ty "ValueError") (u := .type "ValueError") rfl) pa_nil))) fun σ H Q ⟨h1, h2, h3⟩ => ?_
  exact ⟨_, h1, .ty "ValueError", .type "ValueError", true, rfl, fun u r => r, F.val, h2, h3⟩
end
end Nk
end
section
set_option Elab.async false
set_option linter.all false
set_option maxRecDepth 100000
set_option maxHeartbeats 4000000
/-! _law_names: its body -/
namespace Nk
open PySem PySem.Spec PyProof.Rows L2 HotX
/-- a def's call while p is handled -/
theorem runP {CXX : CXT} {P : Program} {w : World} {K : PySem.W.Frag} {mg : Str → Option Value} {base : Heap} {lev : Nat} {f : Addr} {name qual : Str} {params : Arguments} {body : List Stmt} {scope : Scope} {dV kV doc pm cdv ct oc : Value} {an od : Option Addr}
    {osl : Array (Option Value)} {N ps : List Str} (lk : K.lookup f = some ⟨oc, od, .func (PySem.W.fnOf name qual params body scope dV kV doc pm an cdv ct), osl⟩) (hcd : PySem.W.codeIn K cdv qual = true) (S : FnScope N ps scope)
    {A : Around} {outer : List PySem.Env} {s : Shared} {H : Hp} {args : Args} {us : List Value} {vs : List V} {Q : VK} {E : XK} {p : Addr × Obj} (room : L2H.RoomH (lev + 1) A) (hot : L2H.Hot1 A p) (hpin : L2H.PinOk outer H s p) (e0 : Env0 P w K mg base A outer s H)
    (hb : BindsTo s (PySem.W.fnOf name qual params body scope dV kV doc pm an cdv ct) args (ps.zip us)) (r : Vals vs us) (hl : vs.length = ps.length)
    (hbody : ∃ t, PSs (L2H.cxH CXX P w K mg base N qual scope f cdv A outer s H E p) body t ∧ t { nx := fun _ H' => Q .non H', rt := Q } (L2.start N vs) H) :
    codeAny (model P w) A (.call (.ref f) args) (CR CXX outer P w H s Q E) s := by
  have KX : K.In s.heap := e0.mod.kin.keeps fun b o e => (e0.bs b o e).1
  have lim : s.heap.NoLimit := e0.mod.nolimit.keeps fun b o e => (e0.bs b o e).1
  have hkind : ∀ y ∈ ps.zip us, scope.names.lookup y.1 = some .local ∨ (scope.names.lookup y.1 = some .cell ∧ ((cellsFrom (s.heap.objs.size + 1) scope.names []).lookup y.1).isSome = true) := fun ⟨n, v⟩ hy => by
    rcases S.par n (List.of_mem_zip hy).1 with q | q
    · exact .inl q
    · exact .inr ⟨q, PySem.W.cellsFrom_some _ _ _ (.inl q)⟩
  refine codeAny_call_function room.depth (KX _ _ lk) rfl S.co S.gen rfl (PySem.W.codeRec_of KX hcd) (hb _ _ _ _ ?_)
  refine wpAny_newFunctionEnv_cells S.kind hkind fun env he s1 x => ?_
  subst he
  refine ⟨lim.keeps x.toInCall.keep, codeAny_func ?_⟩
  obtain ⟨t, ht, hq⟩ := hbody
  have I : Inv (L2H.cxH CXX P w K mg base N qual scope f cdv A outer s H E p) [] (L2.start N vs) H s1 := L2H.inv_startH S hpin e0 hl r x
  refine wpAny_mono (ht.run [] s1 (L2.start N vs) H _ I hq) (fun fl s' hs => ?_) fun e s' hs => hs
  cases fl with
  | ret u => obtain ⟨v, _, H', J, rv, q⟩ := hs; exact ⟨v, H', J.os, J.bare, J.base, J.hok, rv, q⟩
  | next => obtain ⟨_, H', J, q⟩ := hs; exact ⟨.non, H', J.os, J.bare, J.base, J.hok, rfl, q⟩
  | brk => obtain ⟨_, _, _, q⟩ := hs; exact q.elim
  | cont => obtain ⟨_, _, _, q⟩ := hs; exact q.elim
def wordsT : Str := "nesting kind program place picks way number text unlike many other"
def wordsL : List Str := Txt.split wordsT " "
def sel : List Str → List Bool → List Str
  | w :: ws, b :: bs => if b = true then w :: sel ws bs else sel ws bs
  | _, _ => []
def goods (b : Str → Bool) : List Bool := ((([b "InvalidNesting", b "InvalidKind", b "InvalidProgram"] ++ [b "InvalidPlace", b "InvalidPicks", b "InvalidWay"]) ++ [b "InvalidNumber", b "InvalidText", b "Unlike"]) ++ [b "TooMany", !true])
theorem words_len : wordsL.length = 11 := by decide +kernel
theorem goods_len (b : Str → Bool) : (goods b).length = 11 := rfl
def nmOf (b : Str → Bool) : Str := Txt.join " " (sel wordsL (goods b))
theorem sel_take : ∀ (ws : List Str) (bs : List Bool) (i : Nat) (w : Str) (b : Bool), ws[i]? = some w → bs[i]? = some b → sel (ws.take (i + 1)) (bs.take (i + 1)) = sel (ws.take i) (bs.take i) ++ (if b = true then [w] else [])
  | [], _, i, w, b, h, _ => by simp at h
  | _ :: _, [], i, w, b, _, h => by simp at h
  | x :: ws, y :: bs, 0, w, b, h1, h2 => by
    simp at h1 h2
    subst h1 h2
    simp [sel]
  | x :: ws, y :: bs, i + 1, w, b, h1, h2 => by
    simp at h1 h2
    have ih := sel_take ws bs i w b h1 h2
    rw [List.take_succ_cons, List.take_succ_cons, List.take_succ_cons, List.take_succ_cons, sel, sel, ih]
    split <;> simp
theorem sel_len : ∀ (ws : List Str) (bs : List Bool), (sel ws bs).length ≤ ws.length
  | [], _ => by simp [sel]
  | _ :: _, [] => by simp [sel]
  | x :: ws, y :: bs => by
    have := sel_len ws bs
    simp only [sel]
    split <;> simp <;> omega
theorem sel_sum : ∀ (ws : List Str) (bs : List Bool), ((sel ws bs).map (·.length)).sum ≤ (ws.map (·.length)).sum
  | [], _ => by simp [sel]
  | _ :: _, [] => by simp [sel]
  | x :: ws, y :: bs => by
    have := sel_sum ws bs
    simp only [sel]
    split <;> simp <;> omega
theorem words_sum : (wordsL.map (·.length)).sum ≤ 1000 := by decide +kernel
theorem nm_scope : FnScope d_53.N d_53.pars (defScope (topS d_53.at_)) := (Dd.scope (d := d_53) (by kernel_rfl)).1
section
variable {Y : Cx} {a D : Addr} {d : Option Addr} {oe : Obj} {b : Str → Bool}
theorem names_body (F : NmF Y.K Y.mg D b) (hz : Zc (.ref D) d oe) (hf : ∃ vs, oe.data = .fields vs) (mem : (a, oe) ∈ Y.pn) (hot : L2H.HotC Y) (hN : Y.N = d_53.N) (hs : Y.env.scope = defScope (topS d_53.at_)) (hfn : ∀ x, Y.fn x = true) {Q : VK} {H : Hp} (dok : DOk d H)
    (hQ : ∀ H', (∀ b o, H b = some o → H' b = some o) → Q (.str (nmOf b)) H') : ∃ t, PSs Y (defBody (topS d_53.at_)) t ∧ t { nx := fun _ H' => Q .non H', rt := Q } (L2.start d_53.N [.ref a]) H := by
  have nd : Y.N.Nodup := by rw [hN]; exact nm_scope.nd
  have ask : ∀ x : Str, (defScope (topS d_53.at_)).names.lookup x = some .globalImplicit → Gl Y x := fun x hx => by
    show Y.env.scope.names.lookup x = some .globalImplicit
    rw [hs]; exact hx
  have e0 : Y.N[0]? = some ("_law_e" : Str) := by rw [hN]; rfl
  have loc : ∀ x : Str, (defScope (topS d_53.at_)).names.lookup x = some .local → Vis Y.env.scope x := fun x hx => by
    rw [hs]; exact .inl hx
  have ve := loc "_law_e" (by kernel_rfl)
  have gi := ask "isinstance" (by kernel_rfl)
  have is1 : ∀ (C : Str), C ∈ askL → (defScope (topS d_53.at_)).names.lookup C = some .globalImplicit → (C == ("__debug__" : Str)) = false → ∀ {p1 p2 p3 p4 : Pos}, PE Y (.Call (.Name "isinstance" p1) [.Name "_law_e" p2, .Name C p3] [] p4) (tIs a d (b C)) :=
    fun C h1 h2 h3 => pe_isC F hz hf mem gi e0 ve h1 (ask C h2) h3
  have is2 : ∀ {p1 p2 p3 p4 : Pos}, PE Y (.Call (.Name "isinstance" p1) [.Name "_law_e" p2, .Name "ValueError" p3] [] p4) (tIs a d true) := pe_isV F hz hf mem gi e0 ve (ask _ (by kernel_rfl))
  have n1 : Y.N[1]? = some ("_law_some" : Str) := by rw [hN]; rfl
  have n2 : Y.N[2]? = some ("_law_words" : Str) := by rw [hN]; rfl
  have l1 : Loc Y.env.scope "_law_some" := by rw [hs]; exact .inl (by kernel_rfl)
  have l2 : Loc Y.env.scope "_law_words" := by rw [hs]; exact .inl (by kernel_rfl)
  have v1 := loc "_law_some" (by kernel_rfl)
  have v2 := loc "_law_words" (by kernel_rfl)
  have some_ : ∀ {p : Pos}, PE Y (.Name "_law_some" p) (tVar 1) := pe_var n1 v1
  have words_ : ∀ {p : Pos}, PE Y (.Name "_law_words" p) (tVar 2) := pe_var n2 v2
  have three : ∀ (C1 C2 C3 : Str) {p1 p2 p3 p4 q1 q2 q3 q4 r1 r2 r3 r4 : Pos}, (∀ C ∈ [C1, C2, C3], C ∈ askL ∧ (defScope (topS d_53.at_)).names.lookup C = some .globalImplicit ∧ (C == ("__debug__" : Str)) = false) →
      PA Y [.Call (.Name "isinstance" p1) [.Name "_law_e" p2, .Name C1 p3] [] p4, .Call (.Name "isinstance" q1) [.Name "_law_e" q2, .Name C2 q3] [] q4, .Call (.Name "isinstance" r1) [.Name "_law_e" r2, .Name C3 r3] [] r4]
        (tCons (tIs a d (b C1)) (tCons (tIs a d (b C2)) (tCons (tIs a d (b C3)) tNil))) := fun C1 C2 C3 _ _ _ _ _ _ _ _ _ _ _ _ h =>
    pa_cons (is1 C1 (h C1 (by simp)).1 (h C1 (by simp)).2.1 (h C1 (by simp)).2.2) (pa_cons (is1 C2 (h C2 (by simp)).1 (h C2 (by simp)).2.1 (h C2 (by simp)).2.2) (pa_cons (is1 C3 (h C3 (by simp)).1 (h C3 (by simp)).2.1 (h C3 (by simp)).2.2) pa_nil))
  have A1 : ∀ C ∈ ([("InvalidNesting" : Str), "InvalidKind", "InvalidProgram"] : List Str), C ∈ askL ∧ (defScope (topS d_53.at_)).names.lookup C = some .globalImplicit ∧ (C == ("__debug__" : Str)) = false := by decide +kernel
  have A2 : ∀ C ∈ ([("InvalidPlace" : Str), "InvalidPicks", "InvalidWay"] : List Str), C ∈ askL ∧ (defScope (topS d_53.at_)).names.lookup C = some .globalImplicit ∧ (C == ("__debug__" : Str)) = false := by decide +kernel
  have A3 : ∀ C ∈ ([("InvalidNumber" : Str), "InvalidText", "Unlike"] : List Str), C ∈ askL ∧ (defScope (topS d_53.at_)).names.lookup C = some .globalImplicit ∧ (C == ("__debug__" : Str)) = false := by decide +kernel
  have A4 : ∀ C ∈ ([("TooMany" : Str)] : List Str), C ∈ askL ∧ (defScope (topS d_53.at_)).names.lookup C = some .globalImplicit ∧ (C == ("__debug__" : Str)) = false := by decide +kernel
  refine ⟨_, pss_cons (ps_set (i := 1) nd n1 l1 (pe_lst (three _ _ _ A1)) rfl (.inl (hfn _)))
    (pss_cons (ps_set (i := 1) nd n1 l1 (pe_op op_cat some_ (pe_lst (three _ _ _ A2))) rfl (.inl (hfn _)))
    (pss_cons (ps_set (i := 1) nd n1 l1 (pe_op op_cat some_ (pe_lst (three _ _ _ A3))) rfl (.inl (hfn _)))
    (pss_cons (ps_set (i := 1) nd n1 l1 (pe_op op_cat some_ (pe_lst (pa_cons (is1 _ (A4 _ (by simp)).1 (A4 _ (by simp)).2.1 (A4 _ (by simp)).2.2) (pa_cons (pe_not is2) pa_nil)))) rfl (.inl (hfn _)))
    (pss_cons (ps_set (i := 2) nd n2 l2 (pe_split pe_str pe_str) rfl (.inl (hfn _)))
    (pss_one (ps_ret (pe_join pe_str (pe_lcH (own := [("_law_word", 3), ("_law_good", 4)]) (g := gTup Y.K 2 (gCons (gName 3) (gCons (gName 4) gNil))) (tt := tB (tVar 4)) (te := tVar 3) hot nd (ask "zip" (by kernel_rfl)) F.gz (pa_cons words_ (pa_cons some_ pa_nil)) rfl rfl ?_ ?_ ?_ ?_))))))))  , ?_⟩
  · rw [hN, hs]
    exact blkOk_by (by decide +kernel)
  · intro p s0 H0 C0 cl fp hb
    refine pg_tupH hb (pgs_cons (pg_name (i := 3) nd (by rw [show (Y.blk s0 H0 _ _ fp).N = Y.N from rfl, hN]; rfl) (.inl (by kernel_rfl)) (.inr (by kernel_rfl))) (pgs_cons (pg_name (i := 4) nd (by rw [show (Y.blk s0 H0 _ _ fp).N = Y.N from rfl, hN]; rfl) (.inl (by kernel_rfl)) (.inr (by kernel_rfl))) pgs_nil)) rfl rfl
  · intro s0 H0 C0 cl fp
    exact pts_one (pt_val (pe_var (i := 4) (by rw [show (Y.blk s0 H0 _ _ fp).N = Y.N from rfl, hN]; rfl) (.inl (by kernel_rfl))))
  · intro s0 H0 C0 cl fp
    exact pe_var (i := 3) (by rw [show (Y.blk s0 H0 _ _ fp).N = Y.N from rfl, hN]; rfl) (.inl (by kernel_rfl))
  have nx : ∀ {H1 : Hp} {q : Addr} {o : HO}, H1 q = none → ∀ b u, H1 b = some u → upd H1 q o b = some u := fun hq b u e => by
    rw [upd_ne (ne_of_none e hq)]; exact e
  refine ⟨rfl, dok, rfl, dok, rfl, dok, by show 3 ≤ sizeLine; decide, fun p1 np1 => ?_⟩
  have k1 := nx (o := .lst [.bl (b "InvalidNesting"), .bl (b "InvalidKind"), .bl (b "InvalidProgram")]) np1
  have d1 := dok.ext k1
  have e1 : upd H p1 (.lst [.bl (b "InvalidNesting"), .bl (b "InvalidKind"), .bl (b "InvalidProgram")]) p1 = some (.lst [.bl (b "InvalidNesting"), .bl (b "InvalidKind"), .bl (b "InvalidProgram")]) := upd_same
  generalize hH1 : upd H p1 (.lst [.bl (b "InvalidNesting"), .bl (b "InvalidKind"), .bl (b "InvalidProgram")]) = H1 at k1 d1 e1
  let L2_ : List V := [.bl (b "InvalidPlace"), .bl (b "InvalidPicks"), .bl (b "InvalidWay")]
  let L3_ : List V := [.bl (b "InvalidNumber"), .bl (b "InvalidText"), .bl (b "Unlike")]
  refine ⟨.ref p1, rfl, rfl, d1, rfl, d1, rfl, d1, by show 3 ≤ sizeLine; decide, fun q1 nq1 => ⟨p1, q1, _, _, rfl, rfl, nx nq1 _ _ e1, upd_same, by show 6 ≤ sizeLine; decide, fun p2 np2 => ?_⟩⟩
  have k2 : ∀ c o, H c = some o → upd (upd H1 q1 (.lst L2_)) p2 (.lst ([.bl (b "InvalidNesting"), .bl (b "InvalidKind"), .bl (b "InvalidProgram")] ++ L2_)) c = some o := fun c o e => nx np2 c o (nx nq1 c o (k1 c o e))
  have e2 : upd (upd H1 q1 (.lst L2_)) p2 (.lst ([.bl (b "InvalidNesting"), .bl (b "InvalidKind"), .bl (b "InvalidProgram")] ++ L2_)) p2 = some (.lst ([.bl (b "InvalidNesting"), .bl (b "InvalidKind"), .bl (b "InvalidProgram")] ++ L2_)) := upd_same
  show (fun H2 : Hp => _) (upd (upd H1 q1 (.lst L2_)) p2 (.lst ([.bl (b "InvalidNesting"), .bl (b "InvalidKind"), .bl (b "InvalidProgram")] ++ L2_)))
  generalize upd (upd H1 q1 (.lst L2_)) p2 (.lst ([.bl (b "InvalidNesting"), .bl (b "InvalidKind"), .bl (b "InvalidProgram")] ++ L2_)) = H2 at k2 e2
  have d2 := dok.ext k2
  refine ⟨.ref p2, rfl, rfl, d2, rfl, d2, rfl, d2, by show 3 ≤ sizeLine; decide, fun q2 nq2 => ⟨p2, q2, _, _, rfl, rfl, nx nq2 _ _ e2, upd_same, by show 9 ≤ sizeLine; decide, fun p3 np3 => ?_⟩⟩
  generalize hL6 : ([.bl (b "InvalidNesting"), .bl (b "InvalidKind"), .bl (b "InvalidProgram")] ++ L2_ ++ L3_ : List V) = L6 at np3 ⊢
  have k3 : ∀ c o, H c = some o → upd (upd H2 q2 (.lst L3_)) p3 (.lst L6) c = some o := fun c o e => nx np3 c o (nx nq2 c o (k2 c o e))
  have e3 : upd (upd H2 q2 (.lst L3_)) p3 (.lst L6) p3 = some (.lst L6) := upd_same
  generalize upd (upd H2 q2 (.lst L3_)) p3 (.lst L6) = H3 at k3 e3 ⊢
  have d3 := dok.ext k3
  have n6 : L6.length = 9 := by rw [← hL6]; rfl
  refine ⟨.ref p3, rfl, rfl, d3, rfl, d3, true, rfl, by show 2 ≤ sizeLine; decide, fun q3 nq3 => ⟨p3, q3, _, _, rfl, rfl, nx nq3 _ _ e3, upd_same, by rw [n6]; show 11 ≤ sizeLine; decide, fun p4 np4 => ?_⟩⟩
  have eB : L6 ++ [V.bl (b "TooMany"), V.bl (!true)] = (goods b).map V.bl := by rw [← hL6]; rfl
  rw [eB]
  have k4 : ∀ c o, H c = some o → upd (upd H3 q3 (.lst [V.bl (b "TooMany"), V.bl (!true)])) p4 (.lst ((goods b).map V.bl)) c = some o := fun c o e => nx np4 c o (nx nq3 c o (k3 c o e))
  have e4 : upd (upd H3 q3 (.lst [V.bl (b "TooMany"), V.bl (!true)])) p4 (.lst ((goods b).map V.bl)) p4 = some (.lst ((goods b).map V.bl)) := upd_same
  generalize upd (upd H3 q3 (.lst [V.bl (b "TooMany"), V.bl (!true)])) p4 (.lst ((goods b).map V.bl)) = H4 at k4 e4 ⊢
  refine ⟨⟨_, rfl⟩, wordsT, " ", rfl, rfl, by decide +kernel, by decide +kernel, fun pw npw => ?_⟩
  show (fun H5 : Hp => _) (upd H4 pw (.lst (wordsL.map V.str)))
  have k5 : ∀ c o, H c = some o → upd H4 pw (.lst (wordsL.map V.str)) c = some o := fun c o e => nx npw c o (k4 c o e)
  have e5 : upd H4 pw (.lst (wordsL.map V.str)) p4 = some (.lst ((goods b).map V.bl)) := nx npw _ _ e4
  have w5 : upd H4 pw (.lst (wordsL.map V.str)) pw = some (.lst (wordsL.map V.str)) := upd_same
  generalize upd H4 pw (.lst (wordsL.map V.str)) = H5 at k5 e5 w5
  refine ⟨⟨_, rfl⟩, .ref pw, rfl, .ref p4, rfl, pw, p4, _, _, rfl, SqL.of w5, SqL.of e5, fun LL hLL => ?_⟩
  refine ⟨fun i m H' => m + i = 11 ∧ H' LL = some (.lst ((sel (wordsL.take i) ((goods b).take i)).map V.str)) ∧ H' pw = some (.lst (wordsL.map V.str)) ∧ H' p4 = some (.lst ((goods b).map V.bl)) ∧ ∀ c o, H c = some o → H' c = some o, ⟨11, rfl, upd_same, nx hLL _ _ w5, nx hLL _ _ e5, fun c o e => nx hLL c o (k5 c o e)⟩, ?_⟩
  rintro i m H' ⟨hm, hl, hw, hg, hk⟩
  have wl := words_len
  have gl := goods_len b
  by_cases hi : i < 11
  · refine .inr ⟨⟨_, _, .str wordsL[i], .bl (goods b)[i], SqL.of hw, SqL.of hg, by rw [List.getElem?_map, List.getElem?_eq_getElem (by omega)]; rfl, by rw [List.getElem?_map, List.getElem?_eq_getElem (by omega)]; rfl⟩, fun H'' => (10 - i) + (i + 1) = 11 ∧ H'' LL = some (.lst ((sel (wordsL.take (i + 1)) ((goods b).take (i + 1))).map V.str)) ∧ H'' pw = some (.lst (wordsL.map V.str)) ∧ H'' p4 = some (.lst ((goods b).map V.bl)) ∧ ∀ c o, H c = some o → H'' c = some o, fun H'' hh => ⟨10 - i, by omega, hh⟩, ?_⟩
    rintro x H'' ⟨Tp, vx, vy, rfl, nT, rfl, hx, hy⟩
    have ex : wordsL[i]? = some wordsL[i] := List.getElem?_eq_getElem (by omega)
    have eg : (goods b)[i]? = some (goods b)[i] := List.getElem?_eq_getElem (by omega)
    have hx' := hx _ (SqL.of hw)
    have hy' := hy _ (SqL.of hg)
    rw [List.getElem?_map, ex] at hx'
    rw [List.getElem?_map, eg] at hy'
    have tk := sel_take wordsL (goods b) i _ _ ex eg
    generalize wordsL[i] = wi at hx' tk
    generalize (goods b)[i] = gi' at hy' tk
    cases hx'
    cases hy'
    have up : ∀ {c : Addr} {o : HO}, H' c = some o → upd H' Tp (.tup [V.str wi, V.bl gi']) c = some o := fun e => nx nT _ _ e
    refine ⟨Tp, [V.str wi, V.bl gi'], rfl, SqT.of upd_same, rfl, V.str wi, [V.bl gi'], rfl, V.bl gi', [], rfl, rfl, rfl, V.bl gi', rfl, gi', rfl, ?_⟩
    cases gi' with
    | false =>
      rw [if_neg (by decide)] at tk ⊢
      rw [List.append_nil] at tk
      exact ⟨by omega, by rw [tk]; exact up hl, up hw, up hg, fun c o e => up (hk c o e)⟩
    | true =>
      rw [if_pos rfl] at tk ⊢
      have neq : ∀ {c : Addr} {o : HO}, H5 c = some o → c ≠ LL := fun e => ne_of_none e hLL
      refine ⟨V.str wi, rfl, _, up hl, ?_, by omega, by rw [tk, List.map_append]; exact upd_same, by rw [upd_ne (neq w5)]; exact up hw, by rw [upd_ne (neq e5)]; exact up hg, fun c o e => by rw [upd_ne (neq (k5 c o e))]; exact up (hk c o e)⟩
      have := sel_len (wordsL.take i) ((goods b).take i)
      rw [List.length_take, wl] at this
      rw [List.length_map, sizeLine_eq]
      omega
  · have h11 : i = 11 := by omega
    subst h11
    refine .inl ⟨⟨_, _, SqL.of hw, SqL.of hg, .inl (by rw [List.length_map, wl]; omega)⟩, " ", LL, sel wordsL (goods b), rfl, rfl, .inl (SqL.of ?_), ?_, hQ _ hk⟩
    · rw [List.take_of_length_le (by omega), List.take_of_length_le (by omega)] at hl
      exact hl
    · have s1 := sel_sum wordsL (goods b)
      have s2 := words_sum
      have s3 := sel_len wordsL (goods b)
      have s4 : ((" " : Str)).length = 1 := by decide +kernel
      rw [s4]
      omega
end
end Nk
end
section
set_option Elab.async false
set_option linter.all false
set_option maxRecDepth 100000
set_option maxHeartbeats 4000000
/-! _law_answer -/
namespace Nk
open PySem PySem.Spec PyProof.Rows L2 LamX
section
variable {Z : Cx} {a D : Addr} {d : Option Addr} {oe : Obj} {b : Str → Bool}
theorem pe_names {fa : Addr} {fd : FuncData} {i : Nat} {p1 p2 p3 : Pos} (Fn : Fun Z.K d_53.name d_53.name (topS d_53.at_) fa fd) (hm : Z.mg "_law_names" = some (.ref fa)) (kp : PySem.W.keepIn Z.K (.ref fa) = true) (bd : Binds Z.K fd d_53.pars []) (F : NmF Z.K Z.mg D b)
    (hz : Zc (.ref D) d oe) (hf : ∃ vs, oe.data = .fields vs) (hot : L2H.Hot1 Z.A (a, oe)) (mem : (a, oe) ∈ Z.pn) (room : L2H.RoomH 1 Z.A) (gl : Gl Z "_law_names") (hN : Z.N[i]? = some ("_law_e" : Str)) (hv : Vis Z.env.scope "_law_e") :
    PE Z (.Call (.Name "_law_names" p1) [.Name "_law_e" p2] [] p3) (fun σ H Q => σ[i]? = some (some (.ref a)) ∧ DOk d H ∧ ∀ H', (∀ c o, H c = some o → H' c = some o) → Q (.str (nmOf b)) H') := by
  refine ⟨fun pinz s σ H Q I h => ?_⟩
  obtain ⟨h1, dok, hQ⟩ := h
  have args : PA Z [.Name "_law_e" p2] (tCons (tVar i) tNil) := pa_cons (pe_var (i := i) hN hv) pa_nil
  refine wpAny_Call_Name_kw (ld_glob I gl hm ?_ (by decide +kernel))
  refine PySem.W.callWith_K (h₀ := Z.base) I.ok.mod.kin kp (thn (args.run p3 pinz s σ H (fun vs H1 => vs = [V.ref a] ∧ H1 = H) I ⟨.ref a, h1, rfl, rfl⟩) fun us s1 got => ?_) rfl rfl
  obtain ⟨vs, H1, I1, r, ev, eH⟩ := got
  subst ev
  rw [eH] at I1
  refine ⟨I1.kIn, ?_⟩
  have hl : us.length = d_53.pars.length := by rw [← r.length]; rfl
  have bb := bd s1 us I1.kIn (by rw [List.append_nil]; exact hl)
  rw [List.append_nil] at bb
  have P1 := I1.pin (a, oe) (List.mem_append_left _ mem)
  have hpin : L2H.PinOk Z.stack H s1 (a, oe) := ⟨P1.1, P1.2.1, fun hmm => (List.mem_cons.mp (I1.stkSub a hmm)).elim P1.2.2.1 P1.2.2.2.1, P1.2.2.2.2⟩
  obtain ⟨oc, od, kV, doc, pm, an, cdv, ct, osl, rfl, lk, hcd⟩ := Fn.ex
  have run := runP (CXX := C8.CX0) (E := C8.E0) (Q := Q) lk hcd nm_scope room hot hpin I1.env0 bb r rfl (names_body (Y := L2H.cxH C8.CX0 Z.prog Z.w Z.K Z.mg Z.base d_53.N d_53.name (defScope (topS d_53.at_)) fa cdv Z.A Z.stack s1 H C8.E0 (a, oe)) F hz hf List.mem_cons_self ⟨(a, oe), hot, List.mem_cons_self⟩ rfl rfl (fun _ => rfl) dok hQ)
  refine wpAny_call (codeAny_mono run fun res s' hq => ?_)
  cases res with
  | error e => exact (show False from hq).elim
  | ok fl =>
    cases fl with
    | ret u => exact I1.after hq
    | next => exact hq.elim
    | brk => exact hq.elim
    | cont => exact hq.elim
end
/-! ### the def -/
def xk : Xc → Str
  | .nesting => "InvalidNesting"
  | .kind => "InvalidKind"
  | .program => "InvalidProgram"
  | .unlike => "Unlike"
  | .many _ => "TooMany"
def nmX : Xc → Str
  | .nesting => "nesting"
  | .kind => "kind"
  | .program => "program"
  | .unlike => "unlike"
  | .many _ => "many"
def isMany : Xc → Bool
  | .many _ => true
  | _ => false
theorem nm_1 : nmOf (fun C => decide (("InvalidNesting" : Str) = C)) = "nesting" := by decide +kernel
theorem nm_2 : nmOf (fun C => decide (("InvalidKind" : Str) = C)) = "kind" := by decide +kernel
theorem nm_3 : nmOf (fun C => decide (("InvalidProgram" : Str) = C)) = "program" := by decide +kernel
theorem nm_4 : nmOf (fun C => decide (("Unlike" : Str) = C)) = "unlike" := by decide +kernel
theorem nm_5 : nmOf (fun C => decide (("TooMany" : Str) = C)) = "many" := by decide +kernel
theorem nm_x : ∀ x : Xc, nmOf (fun C => decide (xk x = C)) = nmX x
  | .nesting => nm_1
  | .kind => nm_2
  | .program => nm_3
  | .unlike => nm_4
  | .many _ => nm_5
structure AnsF (K : PySem.W.Frag) (mg : Str → Option Value) (c : Cl) (fa : Addr) (fd : FuncData) (ne : Addr) : Prop where
  fn : Fun K d_53.name d_53.name (topS d_53.at_) fa fd
  hm : mg "_law_names" = some (.ref fa)
  kp : PySem.W.keepIn K (.ref fa) = true
  bd : Binds K fd d_53.pars []
  nm : ∀ x, NmF K mg (c.of x) fun C => decide (xk x = C)
  e1 : ∀ x, PySem.W.exmOne K (.ref (c.of x)) (.ref c.many) = some (isMany x)
  e2 : ∀ x, PySem.W.exmOne K (.ref (c.of x)) (.ref ne) = some true
  gT : mg "TooMany" = some (.ref c.many)
  gN : mg "NestError" = some (.ref ne)
  xf : XfC K c.many
  lim : PySem.W.findIn K (.ref c.many) "limit" = some none
def AnsV (x : Xc) (Q : VK) (H : Hp) : Prop := match x with
  | .many l => ∀ t, H t = none → Q (.ref t) (upd H t (.tup [.str "many", .int l]))
  | x => Q (.str (nmX x)) H
def ansE (c : Cl) (Q : VK) : XK := fun cls d H' => ∃ x, XRep c H' x cls d ∧ ∀ H'', (∀ b o, H' b = some o → H'' b = some o) → AnsV x Q H''
def TTa (c : Cl) : (XK → Hp → VK → Prop) → Hp → VK → Prop := fun tl H Q => tl (ansE c Q) H fun v H1 => ∀ t, H1 t = none → Q (.ref t) (upd H1 t (.tup [.str "told", v]))
def ts1 (c : Cl) : Suit := fun a cls d D σ H => ∃ l dd, cls = .ref c.many ∧ d = some dd ∧ H dd = some (.xd [("limit", .int l)]) ∧ σ[2]? = some (some (.ref a)) ∧ ∀ H', (∀ b o, H b = some o → H' b = some o) → ∀ t, H' t = none → D.nx (σ.set 1 (some (.ref t))) (upd H' t (.tup [.str "many", .int l]))
def ts2 (c : Cl) : Suit := fun a cls d D σ H => ∃ x, cls = .ref (c.of x) ∧ d = none ∧ σ[2]? = some (some (.ref a)) ∧ ∀ H', (∀ b o, H b = some o → H' b = some o) → D.nx (σ.set 1 (some (.str (nmX x)))) H'
theorem an_scope : FnScope d_65.N d_65.pars (defScope (topS d_65.at_)) := (Dd.scope (d := d_65) (by kernel_rfl)).1
theorem ans_gives {X : Cx} {c : Cl} {fa ne g : Addr} {fd : FuncData} {cdg : Value} {q : Str} (F : AnsF X.K X.mg c fa fd ne) : GivesN X d_65.N d_65.name (defScope (topS d_65.at_)) g cdg (defBody (topS d_65.at_)) "_law_call" q (TTa c) := by
  intro f c' s H Q tl room act hc h
  have nd := an_scope.nd
  let X0 := (cxOf C8.CX0 X.prog X.w X.K X.mg X.base d_65.N d_65.name (defScope (topS d_65.at_)) g cdg X.A X.stack s H C8.E0).nox
  have tkF : L2N.Takes X0 (fun _ _ _ _ => False) := fun _ _ x => by
    obtain ⟨_, _, _, _, _, _, _, _, _, _, _, _, _, _, _, _, z⟩ := x
    exact z.elim
  have slot1 : ∀ {Y : Cx}, Y.N = d_65.N → Y.env.scope = defScope (topS d_65.at_) → Y.N[1]? = some ("_law_found" : Str) ∧ L2.Loc Y.env.scope "_law_found" := fun e1 e2 => ⟨by rw [e1]; rfl, by rw [e2]; exact .inl (by kernel_rfl)⟩
  have glob : ∀ {Y : Cx} (x : Str), Y.env.scope = defScope (topS d_65.at_) → (defScope (topS d_65.at_)).names.lookup x = some .globalImplicit → Gl Y x := fun {Y} x e1 hx => by
    show Y.env.scope.names.lookup x = some .globalImplicit
    rw [e1]; exact hx
  have su1 : ∀ {p1 p2 p3 p4 p5 p6 p7 p8 : Pos} {kk : Nat} (a : Addr) (oe : Obj) (cls : Value) (d : Option Addr) (pn : List (Addr × Obj)), L2N.Zn cls d oe → (∃ vs, oe.data = .fields vs) →
      PSs (X0.suite a ((a, oe) :: pn)) [.Assign [.Name "_law_found" p1] (.Tuple [.Call (.Name "_law_names" p2) [.Name "_law_e" p3] [] p4, .Attribute (.Name "_law_e" p5) "limit" p6] kk p7) p8] (ts1 c a cls d) := @fun p1 p2 p3 p4 p5 p6 p7 p8 kk a oe cls d pn hz hf => by
    refine ⟨fun pins s2 σ H2 D I hh => ?_⟩
    obtain ⟨l, dd, rfl, rfl, hdd, hσ, hD⟩ := hh
    let S0 := X0.suite a ((a, oe) :: pn)
    obtain ⟨vs, hvs⟩ := hf
    have hot : L2H.Hot1 S0.A (a, oe) := ⟨rfl, vs, hvs, hz.2.2 vs hvs⟩
    have hv : Vis S0.env.scope "_law_e" := .inl (by kernel_rfl)
    have nms := pe_names (Z := S0) (i := 2) (p1 := p2) (p2 := p3) (p3 := p4) F.fn F.hm F.kp F.bd (F.nm (.many l)) hz.zc ⟨vs, hvs⟩ hot List.mem_cons_self (L2H.roomH_mark (room.mono (by omega)) _) (glob _ rfl (by kernel_rfl)) rfl hv
    have st : PSs S0 [.Assign [.Name "_law_found" p1] (.Tuple [.Call (.Name "_law_names" p2) [.Name "_law_e" p3] [] p4, .Attribute (.Name "_law_e" p5) "limit" p6] kk p7) p8] _ := pss_one (ps_set (X := S0) (i := 1) nd (slot1 rfl rfl).1 (slot1 rfl rfl).2 (pe_tup (pa_cons nms (pa_cons (pe_xf (X := X0) F.xf F.lim hz.zc ⟨vs, hvs⟩ (pe_var (X := S0) (i := 2) rfl hv)) pa_nil))) rfl (.inl rfl))
    refine st.run pins s2 σ H2 D I ⟨hσ, fun d2 e2 => ⟨_, by cases e2; exact hdd⟩, fun H3 e3 => ⟨.ref a, hσ, rfl, rfl, dd, _, .int l, rfl, e3 _ _ hdd, rfl, by show 2 ≤ sizeLine; decide, fun t nt => ?_⟩⟩
    have := hD H3 e3 t nt
    rw [nm_x (.many l)]
    exact this
  have su2 : ∀ {p1 p2 p3 p4 p5 : Pos} (a : Addr) (oe : Obj) (cls : Value) (d : Option Addr) (pn : List (Addr × Obj)), L2N.Zn cls d oe → (∃ vs, oe.data = .fields vs) →
      PSs (X0.suite a ((a, oe) :: pn)) [.Assign [.Name "_law_found" p1] (.Call (.Name "_law_names" p2) [.Name "_law_e" p3] [] p4) p5] (ts2 c a cls d) := @fun p1 p2 p3 p4 p5 a oe cls d pn hz hf => by
    refine ⟨fun pins s2 σ H2 D I hh => ?_⟩
    obtain ⟨x, rfl, rfl, hσ, hD⟩ := hh
    let S0 := X0.suite a ((a, oe) :: pn)
    obtain ⟨vs, hvs⟩ := hf
    have hot : L2H.Hot1 S0.A (a, oe) := ⟨rfl, vs, hvs, hz.2.2 vs hvs⟩
    have hv : Vis S0.env.scope "_law_e" := .inl (by kernel_rfl)
    have nms := pe_names (Z := S0) (i := 2) (p1 := p2) (p2 := p3) (p3 := p4) F.fn F.hm F.kp F.bd (F.nm x) hz.zc ⟨vs, hvs⟩ hot List.mem_cons_self (L2H.roomH_mark (room.mono (by omega)) _) (glob _ rfl (by kernel_rfl)) rfl hv
    have st : PSs S0 [.Assign [.Name "_law_found" p1] (.Call (.Name "_law_names" p2) [.Name "_law_e" p3] [] p4) p5] _ := pss_one (ps_set (X := S0) (i := 1) nd (slot1 rfl rfl).1 (slot1 rfl rfl).2 nms rfl (.inl rfl))
    refine st.run pins s2 σ H2 D I ⟨hσ, fun d2 e2 => (by cases e2), fun H3 e3 => ?_⟩
    have := hD H3 e3
    rw [nm_x x]
    exact this
  refine ⟨_, pss_cons (ps_set (X := X0) (i := 1) nd (slot1 rfl rfl).1 (slot1 rfl rfl).2 pe_non rfl (.inl rfl))
    (pss_cons (ps_try_each (X := X0) (i := 2) (n := "_law_e") (Wo := fun _ _ _ _ => False) (l := [(.ref c.many, ts1 c), (.ref ne, ts2 c)]) rfl rfl nd rfl (by kernel_rfl) tkF
      (fun W pn xe tk po => pss_one (ps_set (X := X0.tr pn xe) (i := 1) nd (slot1 rfl rfl).1 (slot1 rfl rfl).2 (pe_tup (pa_cons pe_str (pa_cons (act W pn xe _ _ tk) pa_nil))) rfl (.inl rfl)))
      (.cons ⟨glob _ rfl (by kernel_rfl), by decide +kernel, .inl F.gT⟩ su1 (.cons ⟨glob _ rfl (by kernel_rfl), by decide +kernel, .inl F.gN⟩ su2 .nil)))
    (pss_one (ps_ret (pe_var (X := X0) (i := 1) (slot1 rfl rfl).1 (.inl (by kernel_rfl)))))), ?_⟩
  have hq : ∀ Q'' : VK, (∀ v H1, Q'' v H1 ↔ ∀ t, H1 t = none → Q (.ref t) (upd H1 t (.tup [.str "told", v]))) → tl (ansE c Q) H Q'' := fun Q'' hi => by
    have e : Q'' = fun v H1 => ∀ t, H1 t = none → Q (.ref t) (upd H1 t (.tup [.str "told", v])) := funext fun v => funext fun H1 => propext (hi v H1)
    rw [e]; exact h
  refine ⟨ansE c Q, fun cls d H' ⟨x, hx, hA⟩ => ?_, rfl, hc, hq _ fun v H1 => ⟨fun ⟨_, k⟩ p hp => ?_, fun k => ⟨by show 2 ≤ sizeLine; decide, fun p hp => ⟨_, rfl, k p hp⟩⟩⟩⟩
  · cases x with
    | many l =>
      obtain ⟨rfl, dd, rfl, hdd⟩ := hx
      exact ⟨true, F.e1 (.many l), fun _ a na => ⟨l, dd, rfl, rfl, hdd, rfl, fun H3 e3 t nt => ⟨_, rfl, hA H3 e3 t nt⟩⟩, fun z => by cases z⟩
    | nesting =>
      obtain ⟨rfl, rfl⟩ := hx
      exact ⟨false, F.e1 .nesting, (fun z => by cases z), fun _ => ⟨true, F.e2 .nesting, fun _ a na => ⟨.nesting, rfl, rfl, rfl, fun H3 e3 => ⟨_, rfl, hA H3 e3⟩⟩, (fun z => by cases z)⟩⟩
    | kind =>
      obtain ⟨rfl, rfl⟩ := hx
      exact ⟨false, F.e1 .kind, (fun z => by cases z), fun _ => ⟨true, F.e2 .kind, fun _ a na => ⟨.kind, rfl, rfl, rfl, fun H3 e3 => ⟨_, rfl, hA H3 e3⟩⟩, (fun z => by cases z)⟩⟩
    | program =>
      obtain ⟨rfl, rfl⟩ := hx
      exact ⟨false, F.e1 .program, (fun z => by cases z), fun _ => ⟨true, F.e2 .program, fun _ a na => ⟨.program, rfl, rfl, rfl, fun H3 e3 => ⟨_, rfl, hA H3 e3⟩⟩, (fun z => by cases z)⟩⟩
    | unlike =>
      obtain ⟨rfl, rfl⟩ := hx
      exact ⟨false, F.e1 .unlike, (fun z => by cases z), fun _ => ⟨true, F.e2 .unlike, fun _ a na => ⟨.unlike, rfl, rfl, rfl, fun H3 e3 => ⟨_, rfl, hA H3 e3⟩⟩, (fun z => by cases z)⟩⟩
  · obtain ⟨v', e, q⟩ := k p hp
    cases e
    exact q
end Nk
end
section
set_option Elab.async false
set_option linter.all false
set_option maxRecDepth 100000
set_option maxHeartbeats 1000000
/-! how arguments bind -/
namespace NkH
open PySem PySem.Spec PyProof.Rows L2 Nk
def Bd (d : Dd) : Prop := ∀ (K : PySem.W.Frag) (f : Addr) (fd : FuncData), Fun K d.name d.name (topS d.at_) f fd → Binds K fd d.pars []
theorem fa_nil {p : Dd → Prop} : ∀ x ∈ ([] : List Dd), p x := fun x h => by cases h
theorem fa_cons {p : Dd → Prop} {a : Dd} {l : List Dd} (h : p a) (t : ∀ x ∈ l, p x) : ∀ x ∈ a :: l, p x := fun x hx => by
  rcases List.mem_cons.mp hx with rfl | hx
  · exact h
  · exact t x hx

theorem bd_0 : Bd d_0 := fun K f fd F => F.binds fun _ _ _ _ _ _ us hl => match us, hl with | [_, _, _], _ => rfl
theorem bd_1 : Bd d_1 := fun K f fd F => F.binds fun _ _ _ _ _ _ us hl => match us, hl with | [_, _, _], _ => rfl
theorem bd_2 : Bd d_2 := fun K f fd F => F.binds fun _ _ _ _ _ _ us hl => match us, hl with | [_, _], _ => rfl
theorem bd_3 : Bd d_3 := fun K f fd F => F.binds fun _ _ _ _ _ _ us hl => match us, hl with | [_], _ => rfl
theorem bd_4 : Bd d_4 := fun K f fd F => F.binds fun _ _ _ _ _ _ us hl => match us, hl with | [_, _], _ => rfl
theorem bd_5 : Bd d_5 := fun K f fd F => F.binds fun _ _ _ _ _ _ us hl => match us, hl with | [_, _], _ => rfl
theorem bd_6 : Bd d_6 := fun K f fd F => F.binds fun _ _ _ _ _ _ us hl => match us, hl with | [_, _, _], _ => rfl
theorem bd_7 : Bd d_7 := fun K f fd F => F.binds fun _ _ _ _ _ _ us hl => match us, hl with | [_], _ => rfl
theorem bd_8 : Bd d_8 := fun K f fd F => F.binds fun _ _ _ _ _ _ us hl => match us, hl with | [_], _ => rfl
theorem bd_9 : Bd d_9 := fun K f fd F => F.binds fun _ _ _ _ _ _ us hl => match us, hl with | [_, _], _ => rfl
theorem bd_10 : Bd d_10 := fun K f fd F => F.binds fun _ _ _ _ _ _ us hl => match us, hl with | [_, _], _ => rfl
theorem bd_11 : Bd d_11 := fun K f fd F => F.binds fun _ _ _ _ _ _ us hl => match us, hl with | [_, _], _ => rfl
theorem bd_12 : Bd d_12 := fun K f fd F => F.binds fun _ _ _ _ _ _ us hl => match us, hl with | [_, _, _, _], _ => rfl
theorem bd_13 : Bd d_13 := fun K f fd F => F.binds fun _ _ _ _ _ _ us hl => match us, hl with | [_, _, _], _ => rfl
theorem bd_14 : Bd d_14 := fun K f fd F => F.binds fun _ _ _ _ _ _ us hl => match us, hl with | [_], _ => rfl
theorem bd_15 : Bd d_15 := fun K f fd F => F.binds fun _ _ _ _ _ _ us hl => match us, hl with | [_], _ => rfl
theorem bd_16 : Bd d_16 := fun K f fd F => F.binds fun _ _ _ _ _ _ us hl => match us, hl with | [_], _ => rfl
theorem bd_17 : Bd d_17 := fun K f fd F => F.binds fun _ _ _ _ _ _ us hl => match us, hl with | [_, _, _], _ => rfl
theorem bd_18 : Bd d_18 := fun K f fd F => F.binds fun _ _ _ _ _ _ us hl => match us, hl with | [_, _], _ => rfl
theorem bd_19 : Bd d_19 := fun K f fd F => F.binds fun _ _ _ _ _ _ us hl => match us, hl with | [_, _], _ => rfl
theorem bd_20 : Bd d_20 := fun K f fd F => F.binds fun _ _ _ _ _ _ us hl => match us, hl with | [_, _, _], _ => rfl
theorem bd_21 : Bd d_21 := fun K f fd F => F.binds fun _ _ _ _ _ _ us hl => match us, hl with | [_, _, _], _ => rfl
theorem bd_22 : Bd d_22 := fun K f fd F => F.binds fun _ _ _ _ _ _ us hl => match us, hl with | [_, _], _ => rfl
theorem bd_23 : Bd d_23 := fun K f fd F => F.binds fun _ _ _ _ _ _ us hl => match us, hl with | [_, _], _ => rfl
theorem bd_24 : Bd d_24 := fun K f fd F => F.binds fun _ _ _ _ _ _ us hl => match us, hl with | [_, _, _], _ => rfl
theorem bd_25 : Bd d_25 := fun K f fd F => F.binds fun _ _ _ _ _ _ us hl => match us, hl with | [_, _], _ => rfl
theorem bd_26 : Bd d_26 := fun K f fd F => F.binds fun _ _ _ _ _ _ us hl => match us, hl with | [_], _ => rfl
theorem bd_27 : Bd d_27 := fun K f fd F => F.binds fun _ _ _ _ _ _ us hl => match us, hl with | [_, _, _], _ => rfl
theorem bd_28 : Bd d_28 := fun K f fd F => F.binds fun _ _ _ _ _ _ us hl => match us, hl with | [_, _], _ => rfl
theorem bd_29 : Bd d_29 := fun K f fd F => F.binds fun _ _ _ _ _ _ us hl => match us, hl with | [_, _], _ => rfl
theorem bd_30 : Bd d_30 := fun K f fd F => F.binds fun _ _ _ _ _ _ us hl => match us, hl with | [_, _], _ => rfl
theorem bd_31 : Bd d_31 := fun K f fd F => F.binds fun _ _ _ _ _ _ us hl => match us, hl with | [_], _ => rfl
theorem bd_32 : Bd d_32 := fun K f fd F => F.binds fun _ _ _ _ _ _ us hl => match us, hl with | [_, _, _], _ => rfl
theorem bd_33 : Bd d_33 := fun K f fd F => F.binds fun _ _ _ _ _ _ us hl => match us, hl with | [_, _, _], _ => rfl
theorem bd_34 : Bd d_34 := fun K f fd F => F.binds fun _ _ _ _ _ _ us hl => match us, hl with | [_], _ => rfl
theorem bd_35 : Bd d_35 := fun K f fd F => F.binds fun _ _ _ _ _ _ us hl => match us, hl with | [_], _ => rfl
theorem bd_36 : Bd d_36 := fun K f fd F => F.binds fun _ _ _ _ _ _ us hl => match us, hl with | [_], _ => rfl
theorem bd_37 : Bd d_37 := fun K f fd F => F.binds fun _ _ _ _ _ _ us hl => match us, hl with | [_, _, _], _ => rfl
theorem bd_38 : Bd d_38 := fun K f fd F => F.binds fun _ _ _ _ _ _ us hl => match us, hl with | [_, _, _, _], _ => rfl
theorem bd_39 : Bd d_39 := fun K f fd F => F.binds fun _ _ _ _ _ _ us hl => match us, hl with | [_, _], _ => rfl
theorem bd_40 : Bd d_40 := fun K f fd F => F.binds fun _ _ _ _ _ _ us hl => match us, hl with | [_, _, _, _], _ => rfl
theorem bd_41 : Bd d_41 := fun K f fd F => F.binds fun _ _ _ _ _ _ us hl => match us, hl with | [_, _], _ => rfl
theorem bd_42 : Bd d_42 := fun K f fd F => F.binds fun _ _ _ _ _ _ us hl => match us, hl with | [_, _], _ => rfl
theorem bd_43 : Bd d_43 := fun K f fd F => F.binds fun _ _ _ _ _ _ us hl => match us, hl with | [_, _, _], _ => rfl
theorem bd_44 : Bd d_44 := fun K f fd F => F.binds fun _ _ _ _ _ _ us hl => match us, hl with | [_, _, _], _ => rfl
theorem bd_45 : Bd d_45 := fun K f fd F => F.binds fun _ _ _ _ _ _ us hl => match us, hl with | [_, _, _], _ => rfl
theorem bd_46 : Bd d_46 := fun K f fd F => F.binds fun _ _ _ _ _ _ us hl => match us, hl with | [_, _, _], _ => rfl
theorem bd_47 : Bd d_47 := fun K f fd F => F.binds fun _ _ _ _ _ _ us hl => match us, hl with | [_, _, _, _], _ => rfl
theorem bd_48 : Bd d_48 := fun K f fd F => F.binds fun _ _ _ _ _ _ us hl => match us, hl with | [_, _], _ => rfl
theorem bd_49 : Bd d_49 := fun K f fd F => F.binds fun _ _ _ _ _ _ us hl => match us, hl with | [_, _], _ => rfl
theorem bd_50 : Bd d_50 := fun K f fd F => F.binds fun _ _ _ _ _ _ us hl => match us, hl with | [_, _], _ => rfl
theorem bd_51 : Bd d_51 := fun K f fd F => F.binds fun _ _ _ _ _ _ us hl => match us, hl with | [_, _, _], _ => rfl
theorem bd_52 : Bd d_52 := fun K f fd F => F.binds fun _ _ _ _ _ _ us hl => match us, hl with | [_, _], _ => rfl
theorem bd_53 : Bd d_53 := fun K f fd F => F.binds fun _ _ _ _ _ _ us hl => match us, hl with | [_], _ => rfl
theorem bd_54 : Bd d_54 := fun K f fd F => F.binds fun _ _ _ _ _ _ us hl => match us, hl with | [_], _ => rfl
theorem bd_55 : Bd d_55 := fun K f fd F => F.binds fun _ _ _ _ _ _ us hl => match us, hl with | [_], _ => rfl
theorem bd_56 : Bd d_56 := fun K f fd F => F.binds fun _ _ _ _ _ _ us hl => match us, hl with | [_, _, _], _ => rfl
theorem bd_57 : Bd d_57 := fun K f fd F => F.binds fun _ _ _ _ _ _ us hl => match us, hl with | [_, _, _, _], _ => rfl
theorem bd_58 : Bd d_58 := fun K f fd F => F.binds fun _ _ _ _ _ _ us hl => match us, hl with | [_, _, _], _ => rfl
theorem bd_59 : Bd d_59 := fun K f fd F => F.binds fun _ _ _ _ _ _ us hl => match us, hl with | [_, _], _ => rfl
theorem bd_60 : Bd d_60 := fun K f fd F => F.binds fun _ _ _ _ _ _ us hl => match us, hl with | [_, _], _ => rfl
theorem bd_61 : Bd d_61 := fun K f fd F => F.binds fun _ _ _ _ _ _ us hl => match us, hl with | [_, _], _ => rfl
theorem bd_62 : Bd d_62 := fun K f fd F => F.binds fun _ _ _ _ _ _ us hl => match us, hl with | [_, _], _ => rfl
theorem bd_63 : Bd d_63 := fun K f fd F => F.binds fun _ _ _ _ _ _ us hl => match us, hl with | [_, _, _], _ => rfl
theorem bd_64 : Bd d_64 := fun K f fd F => F.binds fun _ _ _ _ _ _ us hl => match us, hl with | [], _ => rfl
theorem bd_65 : Bd d_65 := fun K f fd F => F.binds fun _ _ _ _ _ _ us hl => match us, hl with | [_], _ => rfl
theorem bd_66 : Bd d_66 := fun K f fd F => F.binds fun _ _ _ _ _ _ us hl => match us, hl with | [_, _, _], _ => rfl
theorem bd_67 : Bd d_67 := fun K f fd F => F.binds fun _ _ _ _ _ _ us hl => match us, hl with | [_], _ => rfl
theorem bd_68 : Bd d_68 := fun K f fd F => F.binds fun _ _ _ _ _ _ us hl => match us, hl with | [_], _ => rfl
theorem bd_69 : Bd d_69 := fun K f fd F => F.binds fun _ _ _ _ _ _ us hl => match us, hl with | [_, _, _], _ => rfl
theorem bd_70 : Bd d_70 := fun K f fd F => F.binds fun _ _ _ _ _ _ us hl => match us, hl with | [_, _], _ => rfl
theorem bd_71 : Bd d_71 := fun K f fd F => F.binds fun _ _ _ _ _ _ us hl => match us, hl with | [_, _], _ => rfl
theorem bd_72 : Bd d_72 := fun K f fd F => F.binds fun _ _ _ _ _ _ us hl => match us, hl with | [_, _, _], _ => rfl
theorem bd_73 : Bd d_73 := fun K f fd F => F.binds fun _ _ _ _ _ _ us hl => match us, hl with | [_, _, _, _], _ => rfl
theorem bd_74 : Bd d_74 := fun K f fd F => F.binds fun _ _ _ _ _ _ us hl => match us, hl with | [], _ => rfl
theorem bd_75 : Bd d_75 := fun K f fd F => F.binds fun _ _ _ _ _ _ us hl => match us, hl with | [], _ => rfl
theorem bd_76 : Bd d_76 := fun K f fd F => F.binds fun _ _ _ _ _ _ us hl => match us, hl with | [_, _, _], _ => rfl
theorem bd_77 : Bd d_77 := fun K f fd F => F.binds fun _ _ _ _ _ _ us hl => match us, hl with | [_, _, _, _], _ => rfl
theorem bd_78 : Bd d_78 := fun K f fd F => F.binds fun _ _ _ _ _ _ us hl => match us, hl with | [_, _], _ => rfl
theorem bd_79 : Bd d_79 := fun K f fd F => F.binds fun _ _ _ _ _ _ us hl => match us, hl with | [_, _, _, _], _ => rfl
theorem bd_80 : Bd d_80 := fun K f fd F => F.binds fun _ _ _ _ _ _ us hl => match us, hl with | [_], _ => rfl
theorem bdl_0 : ∀ x ∈ ([d_0, d_1, d_2, d_3, d_4, d_5, d_6, d_7, d_8, d_9, d_10, d_11, d_12, d_13, d_14, d_15, d_16, d_17, d_18, d_19, d_20, d_21, d_22, d_23, d_24] : List Dd), Bd x := fa_cons bd_0 (fa_cons bd_1 (fa_cons bd_2 (fa_cons bd_3 (fa_cons bd_4 (fa_cons bd_5 (fa_cons bd_6 (fa_cons bd_7 (fa_cons bd_8 (fa_cons bd_9 (fa_cons bd_10 (fa_cons bd_11 (fa_cons bd_12 (fa_cons bd_13 (fa_cons bd_14 (fa_cons bd_15 (fa_cons bd_16 (fa_cons bd_17 (fa_cons bd_18 (fa_cons bd_19 (fa_cons bd_20 (fa_cons bd_21 (fa_cons bd_22 (fa_cons bd_23 (fa_cons bd_24 (fa_nil)))))))))))))))))))))))))
theorem bdl_1 : ∀ x ∈ ([d_25, d_26, d_27, d_28, d_29, d_30, d_31, d_32, d_33, d_34, d_35, d_36, d_37, d_38, d_39, d_40, d_41, d_42, d_43, d_44, d_45, d_46, d_47, d_48, d_49] : List Dd), Bd x := fa_cons bd_25 (fa_cons bd_26 (fa_cons bd_27 (fa_cons bd_28 (fa_cons bd_29 (fa_cons bd_30 (fa_cons bd_31 (fa_cons bd_32 (fa_cons bd_33 (fa_cons bd_34 (fa_cons bd_35 (fa_cons bd_36 (fa_cons bd_37 (fa_cons bd_38 (fa_cons bd_39 (fa_cons bd_40 (fa_cons bd_41 (fa_cons bd_42 (fa_cons bd_43 (fa_cons bd_44 (fa_cons bd_45 (fa_cons bd_46 (fa_cons bd_47 (fa_cons bd_48 (fa_cons bd_49 (fa_nil)))))))))))))))))))))))))
theorem bdl_2 : ∀ x ∈ ([d_50, d_51, d_52, d_53, d_54, d_55, d_56, d_57, d_58, d_59, d_60, d_61, d_62, d_63, d_64, d_65, d_66, d_67, d_68, d_69, d_70, d_71, d_72, d_73, d_74] : List Dd), Bd x := fa_cons bd_50 (fa_cons bd_51 (fa_cons bd_52 (fa_cons bd_53 (fa_cons bd_54 (fa_cons bd_55 (fa_cons bd_56 (fa_cons bd_57 (fa_cons bd_58 (fa_cons bd_59 (fa_cons bd_60 (fa_cons bd_61 (fa_cons bd_62 (fa_cons bd_63 (fa_cons bd_64 (fa_cons bd_65 (fa_cons bd_66 (fa_cons bd_67 (fa_cons bd_68 (fa_cons bd_69 (fa_cons bd_70 (fa_cons bd_71 (fa_cons bd_72 (fa_cons bd_73 (fa_cons bd_74 (fa_nil)))))))))))))))))))))))))
theorem bdl_3 : ∀ x ∈ ([d_75, d_76, d_77, d_78, d_79, d_80] : List Dd), Bd x := fa_cons bd_75 (fa_cons bd_76 (fa_cons bd_77 (fa_cons bd_78 (fa_cons bd_79 (fa_cons bd_80 (fa_nil))))))
theorem bds : ∀ d ∈ dds, Bd d := fun d h => by
  rcases List.mem_append.mp h with h | h
  · rcases List.mem_append.mp h with h | h
    · rcases List.mem_append.mp h with h | h
      · exact bdl_0 d h
      · exact bdl_1 d h
    · exact bdl_2 d h
  · exact bdl_3 d h
end NkH
end
section
set_option Elab.async false
set_option linter.all false
set_option maxRecDepth 100000
set_option maxHeartbeats 1000000
/-! what the head tells -/
namespace NkH
open PySem PySem.Spec PyProof.Rows L2 Nk
def clK (K : PySem.W.Frag) : Cl := ⟨He.ga K "InvalidNesting", He.ga K "InvalidKind", He.ga K "InvalidProgram", He.ga K "Unlike", He.ga K "TooMany"⟩
section
variable {w : World} {K : PySem.W.Frag} {h : Heap} {mg : Str → Option Value}
theorem says_fact (c : He.SaysX fa fn [] tf ex w h K) {f : He.Fa} (hf : f ∈ fa) : f.ok K = true := by
  have e : He.SaysD fa fn K := congrArg (fun z : He.AlT => z.1) c.t
  exact e.facts hf
theorem says_fun (c : He.SaysX fa fn [] tf ex w h K) {d : Dd} (hd : d ∈ dds) : ∃ fd, Fun K d.name d.name (topS d.at_) (He.ga K d.name) fd := by
  have e : He.SaysD fa fn K := congrArg (fun z : He.AlT => z.1) c.t
  obtain ⟨fd, F⟩ := e.defs (d := ⟨(d.name, none), d.name, d.name, defArgs (topS d.at_), defBody (topS d.at_), defScope (topS d.at_), [], []⟩) (List.mem_map.mpr ⟨d, hd, rfl⟩)
  obtain ⟨oc, od, dV, kV, doc, pm, an, cdv, ct, osl, rfl, lk, hcd, dv, kv⟩ := F.ex
  have e : dV = .none := by
    rcases dv with ⟨_, e⟩ | ⟨n, _⟩
    · exact e
    · exact absurd rfl n
  subst e
  exact ⟨_, ⟨oc, od, kV, doc, pm, an, cdv, ct, osl, rfl, lk, hcd⟩, F.kp⟩
theorem mem_fa1 {f : He.Fa} (h : f ∈ (dds.map fun d => He.Fa.glo d.name)) : f ∈ fa := by
  unfold fa; simp only [List.mem_append]; exact .inl (.inl (.inl (.inl (.inl (.inl (.inl h))))))
theorem mem_fa2 {f : He.Fa} (h : f ∈ excs.map He.Fa.glo) : f ∈ fa := by
  unfold fa; simp only [List.mem_append]; exact .inl (.inl (.inl (.inl (.inl (.inl (.inr h))))))
theorem mem_fa3 {f : He.Fa} (h : f ∈ ([.glo "TooMany", .glo "NestError"] : List He.Fa)) : f ∈ fa := by
  unfold fa; simp only [List.mem_append]; exact .inl (.inl (.inl (.inl (.inl (.inr h)))))
theorem mem_fa4 {f : He.Fa} (h : f ∈ excs.map He.Fa.exc) : f ∈ fa := by
  unfold fa; simp only [List.mem_append]; exact .inl (.inl (.inl (.inl (.inr h))))
theorem mem_fa5 {f : He.Fa} (h : f ∈ bltn.map He.Fa.free) : f ∈ fa := by
  unfold fa; simp only [List.mem_append]; exact .inl (.inl (.inl (.inr h)))
theorem mem_fa6 {f : He.Fa} (h : f ∈ consts.map fun p => He.Fa.int p.1 p.2) : f ∈ fa := by
  unfold fa; simp only [List.mem_append]; exact .inl (.inl (.inr h))
theorem mem_fa7 {f : He.Fa} (h : f ∈ thrown.map fun x => He.Fa.exm x "TooMany" (decide (x = "TooMany"))) : f ∈ fa := by
  unfold fa; simp only [List.mem_append]; exact .inl (.inr h)
theorem mem_fa8 {f : He.Fa} (h : f ∈ thrown.map fun x => He.Fa.exm x "NestError" true) : f ∈ fa := by
  unfold fa; simp only [List.mem_append]; exact .inr h
theorem gx_gc {x : Str} {i : Int} (h : gx.gc x = some i) : (x, i) ∈ consts := by
  have h : consts.lookup x = some i := h
  exact PySem.mem_of_lookup h
theorem says_free (X : K.In h) (G : h.Ns mainGlobals mg) (c : He.SaysX fa fn [] tf ex w h K) {x : Str} (hx : x ∈ bltn) : mg x = none := He.free_ok X G (says_fact c (mem_fa5 (List.mem_map.mpr ⟨x, hx, rfl⟩)))
theorem wd_of {P : Program} (X : K.In h) (G : h.Ns mainGlobals mg) (c : He.SaysX fa fn [] tf ex w h K) : Wd P w K mg := by
  refine ⟨fun i d hd => ?_, fun x i hx => ?_, fun x hx => ?_⟩
  · have hm := List.mem_of_getElem? hd
    obtain ⟨fd, F⟩ := says_fun c hm
    exact ⟨_, fd, He.glo_ok X G (says_fact c (mem_fa1 (List.mem_map.mpr ⟨d, hm, rfl⟩))), F, bds d hm K _ fd F⟩
  · exact He.int_ok X G (says_fact c (mem_fa6 (List.mem_map.mpr ⟨(x, i), gx_gc hx, rfl⟩)))
  · have : ∀ x ∈ builtinNames, x ∈ bltn := by decide +kernel
    exact says_free X G c (this x hx)
theorem eo {a b : Option (Option Value)} (h : decide (a = b) = true) : a = b := of_decide_eq_true h
theorem oex_of {C : Addr} (q : oexB K C = true) : ∃ nm q N bs bm sn sub ab col dd k0 k1 k2 k3 k5, K.lookup C = some (excClassObj nm q C N bs bm true sn sub ab col dd k0 k1 k2 k3 k5 "ValueError.__new__") ∧ PySem.HandSPX.refsVE bm = true := by
  unfold oexB at q
  split at q
  · rename_i dd cd sl ho
    split at q
    · rename_i C' bm k0 k1 k2 k3 n k5 hm hs
      simp only [Bool.and_eq_true, beq_iff_eq, Bool.not_eq_true'] at q
      obtain ⟨⟨⟨⟨rfl, rfl⟩, hdel⟩, hd⟩, ht⟩ := q
      obtain ⟨nm, bs, mro, ns, qn, hd', sn, sub, ab, col, del⟩ := cd
      dsimp only at hm hdel hd
      subst hm hdel hd
      have hsl : sl = #[k0, k1, k2, k3, some (.builtin "ValueError.__new__"), k5] := by
        obtain ⟨l⟩ := sl
        simp only at hs
        rw [hs]
      subst hsl
      exact ⟨nm, qn, ns, bs, bm, sn, sub, ab, col, dd, k0, k1, k2, k3, k5, ho, ht⟩
    · cases q
  · cases q
theorem tm_of (hb : tmB K = true) (hw : tmW K = tmV) : TmF PySem.Challenge.pw_nestkinds_k48_whole_picks_and_plans K (tmA K).1 (tmA K).2 (tmClo K).1 (tmClo K).2 := by
  unfold tmB at hb
  simp only [Bool.and_eq_true] at hb
  obtain ⟨⟨⟨⟨⟨⟨⟨⟨⟨⟨⟨⟨⟨⟨⟨⟨b1, b2⟩, b3⟩, b4⟩, b5⟩, b6⟩, b7⟩, b8⟩, b9⟩, b10⟩, b11⟩, b12⟩, b13⟩, b14⟩, b15⟩, b16⟩, b17⟩ := hb
  refine ⟨⟨oex_of b1, of_decide_eq_true b14, of_decide_eq_true b15, of_decide_eq_true b16, b17⟩, b2, of_decide_eq_true b3, of_decide_eq_true b4, ?_, b6, ?_, ?_, of_decide_eq_true b9, of_decide_eq_true b10, of_decide_eq_true b11, of_decide_eq_true b12, of_decide_eq_true b13, by kernel_rfl⟩
  · unfold tmW at hw
    split at b5
    · rename_i oc od fd osl ho
      rw [ho] at hw
      have hw : some (fd.name, fd.qualname, fd.params, fd.body, fd.scope, fd.globals, fd.builtins) = tmV := hw
      unfold tmV at hw
      simp only [Bool.and_eq_true, decide_eq_true_eq] at b5
      obtain ⟨⟨c1, c2⟩, c3⟩ := b5
      obtain ⟨nm, qn, ps, bd, sc, gl, cl, df, kd, doc, pm, an, cd, ct, bl⟩ := fd
      simp only [Option.some.injEq, Prod.mk.injEq] at hw
      dsimp only at c1 c2 c3
      obtain ⟨rfl, rfl, rfl, rfl, rfl, rfl, rfl⟩ := hw
      subst c1 c2 c3
      exact ⟨oc, od, .none, kd, doc, pm, an, ct, osl, ho⟩
    · cases b5
  · split at b7
    · rename_i cl cld v csl ho
      have := of_decide_eq_true b7
      subst this
      exact ⟨cl, cld, csl, ho⟩
    · cases b7
  · split at b8
    · rename_i ccl cdd vs ccs ho
      split at b8
      · rename_i file tf' hv
        have := of_decide_eq_true b8
        exact ⟨ccl, cdd, vs, ccs, file, tf', ho, hv, by rw [this]; exact beq_self_eq_true _⟩
      · cases b8
    · cases b8
theorem exf_of (X : K.In h) (G : h.Ns mainGlobals mg) (c : He.SaysX fa fn [] tf ex w h K) (hw : tmW K = tmV) : ExF PySem.Challenge.pw_nestkinds_k48_whole_picks_and_plans K mg (clK K) := by
  have e1 : ∀ x ∈ excs, mg x = some (.ref (He.ga K x)) ∧ PySem.W.excIn K (He.ga K x) He.veBase "ValueError.__new__" = true ∧ PySem.W.keepIn K (.ref (He.ga K x)) = true ∧ PySem.W.subIn K (.ref (He.ga K x)) (.type "BaseException") = some true ∧ PySem.W.typeIn K (.ref (He.ga K x)) = some (.type "type") := fun x hx => by
    have a := He.glo_ok X G (says_fact c (mem_fa2 (List.mem_map.mpr ⟨x, hx, rfl⟩)))
    have b := He.exc_ok (says_fact c (mem_fa4 (List.mem_map.mpr ⟨x, hx, rfl⟩)))
    exact ⟨a, b.1, b.2.1, b.2.2.1, b.2.2.2⟩
  refine ⟨fun x xc hx => ?_, ⟨_, _, _, tm_of (He.ba c.more).1 hw⟩, He.glo_ok X G (says_fact c (mem_fa3 (by simp))), says_free X G c (by decide +kernel), says_free X G c (by decide +kernel)⟩
  unfold excO at hx
  split at hx
  · rename_i e; cases hx; subst e; exact e1 _ (by decide +kernel)
  · split at hx
    · rename_i e; cases hx; subst e; exact e1 _ (by decide +kernel)
    · split at hx
      · rename_i e; cases hx; subst e; exact e1 _ (by decide +kernel)
      · split at hx
        · rename_i e; cases hx; subst e; exact e1 _ (by decide +kernel)
        · cases hx
end
end NkH
end
section
set_option Elab.async false
set_option linter.all false
set_option maxRecDepth 100000
set_option maxHeartbeats 1000000
/-! the draws -/
namespace Nk
open PySem PySem.Spec PyProof.Rows L2
section
variable {P : Program} {w : World} {K : PySem.W.Frag} {mg : Str → Option Value} {base : Heap} {T : TL} {c : Cl}
theorem dr_scope : FnScope d_49.N d_49.pars (defScope (topS d_49.at_)) := (Dd.scope (d := d_49) (by kernel_rfl)).1
theorem draw_ok (wd : Wd P w K mg) {fa : Addr} {fd : FuncData} {k : Nat} (F : Fun K d_49.name d_49.name (topS d_49.at_) fa fd) : FnOk P w K mg base (L2N.CX P w) (k + 1) fa fd d_49.pars (spD T c (fun _ => drawP) 0 d_49.pars.length) := by
  have gi : mg "int" = none := wd.free _ (by decide +kernel)
  have N := dr_scope
  refine okN F N (fun vs H Q E q => q.1) fun cdv A outer s H vs Q E hr hsp => ⟨_, pss_cons (ps_if (pt_cmpR op_gt (pe_ix ix_list (pv 0) pe_int (fun _ _ => rfl)) pe_int (nomark _))
      (pss_cons (ps_set (i := 2) N.nd rfl (.inl rfl) (pe_op op_mod (pe_callTy call_int1 rfl gi (by decide +kernel) (pa_cons (pe_ix ix_list (pv 0) pe_int (fun _ _ => rfl)) pa_nil)) (pv 1)))
        (pss_cons (ps_asg (pe_op op_fdiv (pe_ix ix_list (pv 0) pe_int (fun _ _ => rfl)) (pv 1)) (pg_sub (pv 0) pe_int set_list))
          (pss_one (ps_ret (pv 2))))) pss_nil)
    (pss_cons (ps_asg (pe_op op_mod (pe_callTy call_int1 rfl gi (by decide +kernel) (pa_cons (pe_op op_add (pe_op op_mul (pe_ix ix_list (pv 0) pe_int (fun _ _ => rfl)) pe_int) pe_int) pa_nil)) pe_int) (pg_sub (pv 0) pe_int set_list))
      (pss_cons (ps_set (i := 3) N.nd rfl (.inl rfl) (pe_op op_mod (pe_callTy call_int1 rfl gi (by decide +kernel) (pa_cons (pe_op op_mul (pe_ix ix_list (pv 0) pe_int (fun _ _ => rfl)) (pe_op op_add (pe_op op_fdiv (pe_ix ix_list (pv 0) pe_int (fun _ _ => rfl)) pe_int) pe_int)) pa_nil)) pe_int))
        (pss_one (ps_ret (pe_op op_mod (pe_callTy call_int1 rfl gi (by decide +kernel) (pa_cons (pe_op op_fdiv (pv 3) pe_int) pa_nil)) (pv 1)))))), ?_⟩
  obtain ⟨hlen, a0, M, st, ds, hs, r, q⟩ := hsp
  have go : ∃ m, ds = [.src, .int m] := by
    match ds, q with
    | [.src, .int m], _ => exact ⟨m, rfl⟩
  obtain ⟨m, rfl⟩ := go
  obtain ⟨rfl⟩ : vs = [V.ref a0, V.int m] := by
    cases r with
    | cons r1 r2 =>
      cases r1
      cases r2 with
      | cons r3 r4 =>
        cases r3
        cases r4
        rfl
  have q : Res T c E a0 M H ((if 0 < m ∧ m < 1073741824 ∧ 0 ≤ st.n ∧ st.n < 2147483179 then
      (if 0 < st.c then .ok (.int (st.c % m)) ⟨st.c / m, st.n⟩
      else .ok (.int (((((st.n * 48271 + 97) % 2147483179) * (((st.n * 48271 + 97) % 2147483179) / 47 + 34)) % 2147483171) / 32 % m)) ⟨st.c, (st.n * 48271 + 97) % 2147483179⟩) else .stuck : R D)) fun d H' _ => ∀ v, Rep a0 M H' v d → Q v H' := q
  by_cases hm : 0 < m ∧ m < 1073741824 ∧ 0 ≤ st.n ∧ st.n < 2147483179
  case neg => rw [if_neg hm] at q; exact q.elim
  rw [if_pos hm] at q
  obtain ⟨m0, m1, n0, n1⟩ := hm
  have put : ∀ {c' n' : Int} {H0 : Hp}, Hs a0 M T H0 st → Hs a0 M T (upd H0 a0 (.lst [.int c', .int n'])) ⟨c', n'⟩ := fun {c' n' H0} h0 => by
    refine ⟨upd_same, h0.m0, fun b hb => ?_, tabs_put h0.tabs h0.src⟩
    by_cases z : b = a0
    · exact ⟨_, by rw [z, upd_same]⟩
    · obtain ⟨zs, e⟩ := h0.md b hb
      exact ⟨zs, by rw [upd_ne z]; exact e⟩
  have exta : ∀ {o : HO}, Ext a0 H (upd H a0 o) := fun {o} b u e n _ => by rw [upd_ne n]; exact e
  have S := SqL.of (K := K) hs.src
  refine ⟨_, rfl, _, _, _, _, rfl, rfl, S, rfl, _, _, rfl, rfl, _, rfl, ?_⟩
  by_cases hc : 0 < st.c
  · rw [if_pos hc] at q
    rw [decide_eq_true hc]
    refine iteT ?_
    refine ⟨_, rfl, _, _, _, _, rfl, rfl, S, rfl, .inl ⟨_, rfl, _, rfl, _, _, rfl, rfl, m0, ?_⟩⟩
    refine ⟨_, rfl, _, _, _, _, rfl, rfl, S, rfl, _, rfl, _, _, rfl, rfl, ⟨m0, m1⟩, ?_⟩
    refine ⟨_, rfl, _, _, _, 0, rfl, rfl, hs.src, rfl, ?_⟩
    exact ⟨_, rfl, q _ exta (put hs) _ (.int _)⟩
  · rw [if_neg hc] at q
    rw [decide_eq_false hc]
    refine iteF ?_
    have S1 : ∀ {n' : Int}, SqL K (upd H a0 (.lst [.int st.c, .int n'])) a0 [.int st.c, .int n'] := fun {n'} => SqL.of upd_same
    refine ⟨_, rfl, _, _, _, _, rfl, rfl, S, rfl, _, _, rfl, rfl, .inr (by decide), _, _, rfl, rfl, .inl ⟨_, rfl, _, _, rfl, rfl, (show (0 : Int) < 2147483179 by decide), ?_⟩⟩
    refine ⟨_, rfl, _, _, _, 1, rfl, rfl, hs.src, rfl, ?_⟩
    have nb : 0 ≤ (st.n * 48271 + 97) % 2147483179 ∧ (st.n * 48271 + 97) % 2147483179 < 2147483179 := ⟨Int.emod_nonneg _ (by decide), Int.emod_lt_of_pos _ (by decide)⟩
    obtain ⟨n', hn'⟩ : ∃ n', n' = (st.n * 48271 + 97) % 2147483179 := ⟨_, rfl⟩
    rw [← hn'] at q nb
    show tSeq _ _ _ _ (upd H a0 (.lst [.int st.c, .int ((st.n * 48271 + 97) % 2147483179)]))
    rw [← hn']
    have db : 0 ≤ n' / 47 ∧ n' / 47 ≤ n' := ⟨Int.ediv_nonneg nb.1 (by decide), Int.ediv_le_self _ nb.1⟩
    refine ⟨_, rfl, _, _, _, _, rfl, rfl, S1, rfl, _, rfl, _, _, _, _, rfl, rfl, S1, rfl, _, _, rfl, rfl, ⟨by decide, by decide⟩, _, _, rfl, rfl, _, _, rfl, rfl, .inl ⟨by omega, by omega⟩, .inl ⟨_, rfl, _, _, rfl, rfl, (show (0 : Int) < 2147483171 by decide), ?_⟩⟩
    refine ⟨_, rfl, _, _, rfl, rfl, ⟨by decide, by decide⟩, .inl ⟨_, rfl, _, rfl, _, _, rfl, rfl, m0, ?_⟩⟩
    exact q _ exta (put hs) _ (.int _)
end
end Nk
end
section
set_option Elab.async false
set_option linter.all false
set_option maxRecDepth 100000
set_option maxHeartbeats 1000000
/-! the source of the draws -/
namespace Nk
open PySem PySem.Spec PyProof.Rows L2
def spSrc (K : PySem.W.Frag) : Sp := fun vs H Q E => ∃ (a : Addr) (ns : List Int), vs = [.ref a, .int 0] ∧ SqL K H a (ns.map V.int) ∧ ∀ (c n : Int) (p : Addr), 0 ≤ n → n < 2147483179 → H p = none → Q (.ref p) (upd H p (.lst [.int c, .int n]))
section
variable {P : Program} {w : World} {K : PySem.W.Frag} {mg : Str → Option Value} {base : Heap}
theorem src_scope : FnScope d_48.N d_48.pars (defScope (topS d_48.at_)) := (Dd.scope (d := d_48) (by kernel_rfl)).1
theorem src_ok (wd : Wd P w K mg) (ga : mg "abs" = none) {fa : Addr} {fd : FuncData} {k : Nat} (F : Fun K d_48.name d_48.name (topS d_48.at_) fa fd) : FnOk P w K mg base (L2N.CX P w) (k + 1) fa fd d_48.pars (spSrc K) := by
  have gi : mg "int" = none := wd.free _ (by decide +kernel)
  have gl : mg "len" = none := wd.free _ (by decide +kernel)
  have N := src_scope
  refine okN F N (fun vs H Q E ⟨a, ns, e, _⟩ => by rw [e]; rfl) fun cdv A outer s H vs Q E hr hsp => ⟨_, pss_cons (ps_set (i := 2) N.nd rfl (.inl rfl)
      (pe_ifExp (pt_cmpR op_lt (pv 1) (pe_callB call_len rfl gl (by decide +kernel) (pa_cons (pv 0) pa_nil)) (nomark _))
        (pe_callB call_abs rfl ga (by decide +kernel) (pa_cons (pe_callTy call_int1 rfl gi (by decide +kernel) (pa_cons (pe_ix ix_list (pv 0) (pv 1) (fun _ _ => rfl)) pa_nil)) pa_nil))
        (pe_op op_add (pe_op op_mul pe_int (pv 1)) pe_int)))
    (pss_one (ps_ret (pe_lst (pa_cons (pe_ifExp (pt_cmpR op_gt (pv 2) (pe_op op_pow pe_int pe_int) (nomark _)) (pv 2) pe_int)
      (pa_cons (pe_op op_mod (pe_callTy call_int1 rfl gi (by decide +kernel) (pa_cons (pe_op op_add (pe_op op_add (pe_op op_mul (pv 2) pe_int) (pe_op op_mul pe_int (pv 1))) pe_int) pa_nil)) pe_int) pa_nil))))), ?_⟩
  obtain ⟨a, ns, rfl, S, q⟩ := hsp
  refine ⟨_, rfl, _, rfl, _, _, rfl, Or.inl ⟨_, S, rfl⟩, _, _, rfl, rfl, _, rfl, ?_⟩
  by_cases h0 : (0 : Int) < ((ns.map V.int).length : Int)
  · rw [decide_eq_true h0]
    refine iteT ?_
    have hl : 0 < ns.length := by simpa using h0
    have e0 : atI (ns.map V.int) ((0 : Nat) : Int) = some (.int ns[0]) := atI_nat (by rw [List.getElem?_map, List.getElem?_eq_getElem hl]; rfl)
    refine ⟨_, rfl, _, rfl, _, _, _, _, rfl, rfl, S, e0, .inl ⟨_, rfl, _, rfl, ?_⟩⟩
    refine ⟨_, rfl, _, _, rfl, rfl, ⟨by decide, by decide, by decide⟩, _, _, rfl, rfl, _, rfl, ?_⟩
    have last : ∀ y : Int, (0 : Int) ≤ ((if ns[0] < 0 then -ns[0] else ns[0]) * 16807 + 10079 * 0 + 101) % 2147483179 ∧ ((if ns[0] < 0 then -ns[0] else ns[0]) * 16807 + 10079 * 0 + 101) % 2147483179 < 2147483179 := fun _ => ⟨Int.emod_nonneg _ (by decide), Int.emod_lt_of_pos _ (by decide)⟩
    by_cases hg : (10 : Int) ^ (17 : Int).toNat < (if ns[0] < 0 then -ns[0] else ns[0])
    · rw [decide_eq_true hg]
      refine iteT ⟨_, rfl, _, rfl, _, _, rfl, rfl, .inr ⟨by decide, by decide⟩, _, rfl, _, _, rfl, rfl, .inl ⟨by decide, by decide⟩, _, _, rfl, rfl, _, _, rfl, rfl, .inl ⟨_, rfl, _, _, rfl, rfl, (show (0 : Int) < 2147483179 by decide), ?_⟩⟩
      exact ⟨by show 2 ≤ sizeLine; decide, fun p hp => q _ _ p (last 0).1 (last 0).2 hp⟩
    · rw [decide_eq_false hg]
      refine iteF ⟨_, rfl, _, _, rfl, rfl, .inr ⟨by decide, by decide⟩, _, rfl, _, _, rfl, rfl, .inl ⟨by decide, by decide⟩, _, _, rfl, rfl, _, _, rfl, rfl, .inl ⟨_, rfl, _, _, rfl, rfl, (show (0 : Int) < 2147483179 by decide), ?_⟩⟩
      exact ⟨by show 2 ≤ sizeLine; decide, fun p hp => q _ _ p (last 0).1 (last 0).2 hp⟩
  · rw [decide_eq_false h0]
    refine iteF ?_
    refine ⟨_, rfl, _, _, rfl, rfl, .inl ⟨by decide, by decide⟩, _, _, rfl, rfl, ?_⟩
    refine ⟨_, rfl, _, _, rfl, rfl, ⟨by decide, by decide, by decide⟩, _, _, rfl, rfl, _, rfl, ?_⟩
    have last : ∀ y : Int, (0 : Int) ≤ (((139 : Int) * 0 + 79) * 16807 + 10079 * 0 + 101) % 2147483179 ∧ (((139 : Int) * 0 + 79) * 16807 + 10079 * 0 + 101) % 2147483179 < 2147483179 := fun _ => ⟨Int.emod_nonneg _ (by decide), Int.emod_lt_of_pos _ (by decide)⟩
    by_cases hg : (10 : Int) ^ (17 : Int).toNat < ((139 : Int) * 0 + 79)
    · rw [decide_eq_true hg]
      refine iteT ⟨_, rfl, _, rfl, _, _, rfl, rfl, .inr ⟨by decide, by decide⟩, _, rfl, _, _, rfl, rfl, .inl ⟨by decide, by decide⟩, _, _, rfl, rfl, _, _, rfl, rfl, .inl ⟨_, rfl, _, _, rfl, rfl, (show (0 : Int) < 2147483179 by decide), ?_⟩⟩
      exact ⟨by show 2 ≤ sizeLine; decide, fun p hp => q _ _ p (last 0).1 (last 0).2 hp⟩
    · rw [decide_eq_false hg]
      refine iteF ⟨_, rfl, _, _, rfl, rfl, .inr ⟨by decide, by decide⟩, _, rfl, _, _, rfl, rfl, .inl ⟨by decide, by decide⟩, _, _, rfl, rfl, _, _, rfl, rfl, .inl ⟨_, rfl, _, _, rfl, rfl, (show (0 : Int) < 2147483179 by decide), ?_⟩⟩
      exact ⟨by show 2 ≤ sizeLine; decide, fun p hp => q _ _ p (last 0).1 (last 0).2 hp⟩
end
end Nk
end
section
set_option Elab.async false
set_option linter.all false
set_option maxRecDepth 100000
set_option maxHeartbeats 1000000
/-! the table of the bodies -/
namespace Nk
open PySem PySem.Spec PyProof.Rows L2
def RowOk (p : Dd × Option Ss) : Prop := ∀ b, p.2 = some b → p.1.body = some b
theorem row_nil : ∀ x ∈ ([] : List (Dd × Option Ss)), RowOk x := fun x h => by cases h
theorem row_cons {a : Dd × Option Ss} {l : List (Dd × Option Ss)} (h : RowOk a) (t : ∀ x ∈ l, RowOk x) : ∀ x ∈ a :: l, RowOk x := fun x hx => by
  rcases List.mem_cons.mp hx with rfl | hx
  · exact h
  · exact t x hx
theorem row_some {d : Dd} {b : Ss} (h : d.body = some b) : RowOk (d, some b) := fun b' e => by cases e; exact h
theorem row_none {d : Dd} : RowOk (d, none) := fun b' e => by cases e
theorem rowsOk_0 : ∀ x ∈ rows_0, RowOk x := row_cons (row_some c_0) (row_cons (row_some c_1) (row_cons (row_some c_2) (row_cons (row_some c_3) (row_cons (row_some c_4) (row_cons (row_some c_5) (row_cons (row_some c_6) (row_cons (row_some c_7) (row_cons (row_some c_8) (row_cons (row_some c_9) (row_cons (row_some c_10) (row_cons row_none (row_cons row_none (row_cons row_none (row_cons (row_some c_14) (row_cons (row_some c_15) (row_cons (row_some c_16) (row_cons (row_some c_17) (row_cons (row_some c_18) (row_cons (row_some c_19) (row_cons (row_some c_20) (row_cons (row_some c_21) (row_cons (row_some c_22) (row_cons (row_some c_23) (row_cons (row_some c_24) (row_nil)))))))))))))))))))))))))
theorem rowsOk_1 : ∀ x ∈ rows_1, RowOk x := row_cons (row_some c_25) (row_cons (row_some c_26) (row_cons (row_some c_27) (row_cons (row_some c_28) (row_cons (row_some c_29) (row_cons (row_some c_30) (row_cons (row_some c_31) (row_cons (row_some c_32) (row_cons (row_some c_33) (row_cons (row_some c_34) (row_cons (row_some c_35) (row_cons (row_some c_36) (row_cons (row_some c_37) (row_cons (row_some c_38) (row_cons (row_some c_39) (row_cons (row_some c_40) (row_cons (row_some c_41) (row_cons (row_some c_42) (row_cons (row_some c_43) (row_cons (row_some c_44) (row_cons (row_some c_45) (row_cons (row_some c_46) (row_cons (row_some c_47) (row_cons row_none (row_cons row_none (row_nil)))))))))))))))))))))))))
theorem rowsOk_2 : ∀ x ∈ rows_2, RowOk x := row_cons (row_some c_50) (row_cons (row_some c_51) (row_cons (row_some c_52) (row_cons row_none (row_cons (row_some c_54) (row_cons (row_some c_55) (row_cons (row_some c_56) (row_cons (row_some c_57) (row_cons (row_some c_58) (row_cons (row_some c_59) (row_cons (row_some c_60) (row_cons (row_some c_61) (row_cons (row_some c_62) (row_cons (row_some c_63) (row_cons (row_some c_64) (row_cons row_none (row_cons (row_some c_66) (row_cons (row_some c_67) (row_cons (row_some c_68) (row_cons (row_some c_69) (row_cons (row_some c_70) (row_cons (row_some c_71) (row_cons (row_some c_72) (row_cons (row_some c_73) (row_cons (row_some c_74) (row_nil)))))))))))))))))))))))))
theorem rowsOk_3 : ∀ x ∈ rows_3, RowOk x := row_cons (row_some c_75) (row_cons (row_some c_76) (row_cons (row_some c_77) (row_cons (row_some c_78) (row_cons (row_some c_79) (row_cons row_none (row_nil))))))
theorem rowsOk : ∀ x ∈ rows, RowOk x := fun d h => by
  rcases List.mem_append.mp h with h | h
  · rcases List.mem_append.mp h with h | h
    · rcases List.mem_append.mp h with h | h
      · exact rowsOk_0 d h
      · exact rowsOk_1 d h
    · exact rowsOk_2 d h
  · exact rowsOk_3 d h
theorem tab_ok : TabOk tab := ⟨fun i d hd g hg => by
  unfold tab at hg
  have e : dds[i]? = (rows[i]?).map (·.1) := by rw [← rows_dds, List.getElem?_map]
  rw [e] at hd
  cases hr : rows[i]? with
  | none => rw [hr] at hd; cases hd
  | some p =>
    obtain ⟨d', o⟩ := p
    rw [hr] at hd hg
    cases hd
    cases o with
    | none =>
      dsimp only at hg
      split at hg
      · cases hg
      · split at hg <;> cases hg
    | some b =>
      cases hg
      exact ⟨rfl, rfl, rowsOk (d', some b) (List.mem_of_getElem? hr) b rfl, rfl⟩⟩
end Nk
end
section
set_option Elab.async false
set_option linter.all false
set_option maxRecDepth 100000
set_option maxHeartbeats 1000000
/-! the end, given the rest -/
namespace NkH
open PySem PySem.Spec PyProof.Rows L2 Nk
abbrev PP : Program := PySem.Challenge.pw_nestkinds_k48_whole_picks_and_plans
def tail80 : Ss := match b_80 with
  | .cons _ r => r
  | s => s
def tlK (K : PySem.W.Frag) : TL := [((He.cT K ("law", none)).2, "law.<locals>.<lambda>"), ((He.cT K ("_law_right", none)).2, "_law_right.<locals>.<lambda>")]
/-- law's frame behind its first statement -/
def env80 : Nk.Env := [none, some D.src] ++ List.replicate 15 none
theorem law_split : ∃ (p1 p2 p3 p4 p5 p6 : Pos) (j : Nat) (rest : List Stmt), defBody (topS 109) = .Assign [.Name "_law_source_here" p1] (.Call (.Name "_law_source" p2) [.Name "_law_script" p3, .Constant (.int 0) j p4] [] p5) p6 :: rest ∧ cSs gx 100 (sxOf d_80.N d_80.own d_80.lam d_80.drop (topS 109)) rest = some tail80 :=
  ⟨_, _, _, _, _, _, _, (defBody (topS 109)).tail, rfl, by kernel_rfl⟩
def spLaw (K : PySem.W.Frag) : Sp := fun vs H Q _ => ∃ (a : Addr) (ns : List Int), vs = [.ref a] ∧ SqL K H a (ns.map V.int) ∧ LamX.Tabs (tlK K) H ∧ ∀ H', Q (.bl true) H'
section
variable {w : World} {K : PySem.W.Frag} {mg : Str → Option Value} {base : Heap} {c : Cl}
theorem law_ok {j : Nat} (wd : Wd PP w K mg) (ra : RaAll PP w K mg base c) (an : AnsAll PP w K mg base (tlK K) c) (pr : PrimAll PP w K mg base (tlK K) c tab) (gabs : mg "abs" = none)
    (math : ∀ cc n : Int, 0 ≤ n → n < 2147483179 → ∃ st, evSs (callK tab j) tail80 env80 ⟨cc, n⟩ = .ok (.rt (.bl true)) st)
    {fa : Addr} {fd : FuncData} (hm : mg d_80.name = some (.ref fa)) (F : Fun K d_80.name d_80.name (topS d_80.at_) fa fd) : FnOk PP w K mg base (L2N.CX PP w) (j + 3) fa fd d_80.pars (spLaw K) := by
  have S := (Dd.scope (d := d_80) (by kernel_rfl)).1
  obtain ⟨oc, od, kV, doc, pm, an', cdv, ct, osl, rfl, lk, hcd⟩ := F.ex
  refine fn_of lk hcd S (fun vs H Q E ⟨a, ns, e, _⟩ => by rw [e]; rfl) fun A outer s H vs Q E hr hsp => ?_
  obtain ⟨a, ns, rfl, hS, hT, hQ⟩ := hsp
  let X := cxOf (L2N.CX PP w) PP w K mg base d_80.N d_80.name (defScope (topS d_80.at_)) fa cdv A outer s H E
  have okj := all_ok wd ra an tab_ok pr j
  have tk : L2N.Takes X fun cls d _ H => E cls d H := L2N.takes_of (X := X) rfl rfl rfl rfl
  have g : Gd gx X j (tlK K) c (callK tab j) E := gd_of wd okj rfl rfl rfl rfl rfl rfl S.nd (hr.mono (by omega)) (L2N.passes_call tk fun _ _ _ _ h => h)
  have dx : Df' X E := ⟨rfl, rfl, tk, passes_of rfl, S.kind⟩
  have ft : Fit X (sxOf d_80.N d_80.own d_80.lam d_80.drop (topS d_80.at_)) d_80.ownF E := ⟨rfl, rfl, fun i x hx => by
    have hx : d_80.N[i]? = some x := hx
    unfold Dd.ownF; rw [hx]; rfl, fun _ _ => rfl, fun _ => dx⟩
  have hl : (sxOf d_80.N d_80.own d_80.lam d_80.drop (topS d_80.at_)).lam = true → AnsOk gx X (sxOf d_80.N d_80.own d_80.lam d_80.drop (topS d_80.at_)) j (tlK K) c (callK tab j) E d_80.ownF := fun hlam =>
    an 80 d_80 rfl (by decide) fa cdv A outer s H E j (callK tab j) hm hcd ⟨_, _, _, _, lk, rfl⟩ hr fun Y E1 e1 e2 e3 e4 e5 e6 e7 e8 e9 => gd_of wd okj e1 e2 e3 e4 e5 e6 e7 e8 e9
  have ro : RaOk X (sxOf d_80.N d_80.own d_80.lam d_80.drop (topS d_80.at_)) c E := ra X _ E rfl rfl rfl rfl rfl rfl rfl tk fun _ => hr.mono (by omega)
  obtain ⟨p1, p2, p3, p4, p5, p6, jj, rest, hbody, hcomp⟩ := law_split
  obtain ⟨fs, fds, hms, Fs, hbs⟩ := wd.fns 48 d_48 rfl
  have G1 := src_ok (base := base) (k := 0) wd gabs Fs
  rw [show defBody (topS d_80.at_) = _ from hbody]
  have st1 : PS X (.Assign [.Name "_law_source_here" p1] (.Call (.Name "_law_source" p2) [.Name "_law_script" p3, .Constant (.int 0) jj p4] [] p5) p6) _ :=
    ps_set (i := 1) S.nd rfl (.inl rfl) (pe_call G1 (hr.mono (by omega)) (by show (defScope (topS 109)).names.lookup _ = _; kernel_rfl) hms Fs.kp hbs .nil (L2N.passes_call tk fun _ _ _ _ h => h) (pa_cons (pv (X := X) 0 rfl (.inl rfl)) (pa_cons pe_int pa_nil))) rfl
  have tl : PSs X rest (fun D σ H => ∃ a0 M0 Hi, tSs (tlK K) c (callK tab j) E d_80.ownF a0 M0 Hi tail80 D σ H) := ⟨fun pins s σ H D I ⟨a0, M0, Hi, h⟩ => ((sndS_all (a0 := a0) (M0 := M0) (Hi := Hi) g dx ft hl ro 100).cSs hcomp).run pins s σ H D I h⟩
  refine ⟨_, pss_cons st1 tl, ?_⟩
  refine ⟨.ref a, rfl, a, ns, rfl, hS, fun cc n p h1 h2 hp => ?_⟩
  obtain ⟨st, hst⟩ := math cc n h1 h2
  have own0 : ∀ i, d_80.ownF i = false := fun i => by
    unfold Dd.ownF
    split <;> rfl
  refine ⟨p, (fun b => b = p), upd H p (.lst [.int cc, .int n]), (fun b => b = p), ⟨cc, n⟩, env80, ⟨⟨upd_same, rfl, fun b hb => ⟨[.int cc, .int n], (show b = p from hb) ▸ upd_same⟩, hT.ext fun b o e => by rw [upd_ne (ne_of_none e hp)]; exact e⟩, ⟨rfl, rfl, fun i d hd => ?_, fun i jj b h _ _ _ _ _ => by rw [own0 i] at h; cases h⟩, Ext.refl, Later.refl⟩, ?_⟩
  · match i, hd with
    | 1, hd =>
      cases hd
      exact ⟨.ref p, rfl, by rw [own0 1]; exact .src⟩
    | i + 2, hd =>
      have hd : (List.replicate 15 (none : Option D))[i]? = some (some d) := hd
      rw [List.getElem?_replicate] at hd
      split at hd <;> cases hd
  · show ResF _ _ _ _ _ _ _ _ _ (evSs (callK tab j) tail80 env80 ⟨cc, n⟩) _
    rw [hst]
    exact fun v H' _ _ r => by cases r; exact hQ H'
end
end NkH
end
section
set_option Elab.async false
set_option linter.all false
set_option maxRecDepth 100000
set_option maxHeartbeats 1000000
/-! what is still to be shown -/
namespace NkH
open PySem PySem.Spec PyProof.Rows L2 Nk
/-- what is still to be shown of the answers -/
def AnsTodo : Prop := ∀ (w : World) (K : PySem.W.Frag) (mg : Str → Option Value) (base h : Heap), K.In h → h.Ns mainGlobals mg → He.SaysX fa fn [] tf ex w h K → tmW K = tmV → K.In base → base.Ns mainGlobals mg → (∀ p ∈ tf.map (He.cT K), LamX.TabB base mg p.1 p.2) → AnsAll PP w K mg base (tlK K) (clK K)
def PrimTodo : Prop := ∀ (w : World) (K : PySem.W.Frag) (mg : Str → Option Value) (base : Heap), Wd PP w K mg → (∀ x ∈ bltn, mg x = none) → PrimAll PP w K mg base (tlK K) (clK K) tab
def MathTodo (j : Nat) : Prop := ∀ cc n : Int, 0 ≤ n → n < 2147483179 → ∃ st, evSs (callK tab j) tail80 env80 ⟨cc, n⟩ = .ok (.rt (.bl true)) st
def LotTodo : Prop := ∀ (w : World) (K : PySem.W.Frag) (mg : Str → Option Value) (base : Heap) (k : Nat) (fa : Addr) (fd : FuncData), Wd PP w K mg → (∀ x ∈ bltn, mg x = none) → mg d_13.name = some (.ref fa) → Fun K d_13.name d_13.name (topS d_13.at_) fa fd → Binds K fd d_13.pars [] → FnOk PP w K mg base (L2N.CX PP w) (k + 1) fa fd d_13.pars (spD (tlK K) (clK K) (fun _ => lotP) 0 d_13.pars.length)
theorem prim_if (lot : LotTodo) : PrimTodo := by
  intro w K mg base wd hb i d p hd ht
  unfold tab at ht
  split at ht
  · cases ht
  · split at ht
    · rename_i hi
      subst hi
      cases hd
      cases ht
      refine ⟨fun ds st h => ?_, fun k fa fd hm F bd => draw_ok wd F⟩
      match ds, h with
      | [.src, .int m], _ => rfl
    · split at ht
      · rename_i hi
        subst hi
        cases hd
        cases ht
        refine ⟨fun ds st h => ?_, fun k fa fd hm F bd => lot w K mg base k fa fd wd hb hm F bd⟩
        unfold lotP at h
        split at h
        · rename_i hh; rw [sames_eq _ _ hh]; rfl
        · exact absurd rfl h
      · cases ht
end NkH
end
section
set_option Elab.async false
set_option linter.all false
set_option maxRecDepth 100000
set_option maxHeartbeats 4000000
/-! the answers -/
namespace Nk
open PySem PySem.Spec PyProof.Rows L2 LamX
section
variable {T : TL} {c : Cl} {own : Nat → Bool} {cal : Nat → List D → Nk.M D} {E0 : XK}
theorem Hs.sup {a0 : Addr} {M : Addr → Prop} {H H' : Hp} {st : Sr} (h : Hs a0 M T H st) (e : ∀ b o, H b = some o → H' b = some o) : Hs a0 M T H' st :=
  ⟨e _ _ h.src, h.m0, fun b hb => by obtain ⟨xs, z⟩ := h.md b hb; exact ⟨xs, e _ _ z⟩, h.tabs.ext e⟩
theorem two_le : 2 ≤ (line : Nat) := by decide
/-- the evaluator's answer, as the def reads -/
theorem ans_read {b : E} : ∀ σ H Q, tE T c cal E0 own (.ans b) σ H Q → tLam T (TTa c) (fun E => tE T c cal E own b) σ H Q := fun σ H Q ⟨a0, M, st, ρ, hs, he, h⟩ => by
  refine ⟨hs.tabs, fun H1 eN T1 => ?_⟩
  have x1 : Ext a0 H H1 := fun b o e _ t => eN b o e t
  have hs1 : Hs a0 M T H1 st := ⟨eN _ _ hs.src (fun ps z => nomatch z), hs.m0, (fun b hb => by obtain ⟨xs, z⟩ := hs.md b hb; exact ⟨xs, eN _ _ z (fun ps z => nomatch z)⟩), T1⟩
  refine ⟨a0, M, st, ρ, hs1, he.ext hs x1, ?_⟩
  have h : Res T c E0 a0 M H (ansM (evE cal b ρ) st) fun d H' _ => ∀ v, Rep a0 M H' v d → Q v H' := h
  unfold ansM at h
  cases hev : evE cal b ρ st with
  | stuck => rw [hev] at h; exact h.elim
  | ok d st1 =>
    rw [hev] at h
    have h : ∀ H', Ext a0 H H' → Hs a0 M T H' st1 → ∀ v, Rep a0 M H' v (.tup [.str .told, d]) → Q v H' := h
    exact fun H2 x2 hs2 v r t nt => h _ ((x1.trans x2).trans (Ext.new nt)) (hs2.new nt) _ (.tup upd_same two_le (.cons (.str .told) (.cons ((Ext.new nt).rep hs2 r) .nil)))
  | err x st1 =>
    rw [hev] at h
    have fin : ∀ (cls : Value) (dx : Option Addr) (H2 : Hp), Ext a0 H1 H2 → Hs a0 M T H2 st1 → (∀ H'', (∀ b o, H2 b = some o → H'' b = some o) → AnsV x Q H'') → XRep c H2 x cls dx → ansE c Q cls dx H2 := fun cls dx H2 x2 hs2 k r => ⟨x, r, k⟩
    refine fun cls dx H2 x2 hs2 r => fin cls dx H2 x2 hs2 (fun H3 e3 => ?_) r
    have x3 : Ext a0 H H3 := (x1.trans x2).trans fun b o e _ _ => e3 b o e
    have hs3 := hs2.sup e3
    cases x with
    | many l =>
      have h : ∀ H', Ext a0 H H' → Hs a0 M T H' st1 → ∀ v, Rep a0 M H' v (.tup [.str .many, .int l]) → Q v H' := h
      exact fun t nt => h _ (x3.trans (Ext.new nt)) (hs3.new nt) _ (.tup upd_same two_le (.cons (.str .many) (.cons (.int l) .nil)))
    | nesting =>
      have h : ∀ H', Ext a0 H H' → Hs a0 M T H' st1 → ∀ v, Rep a0 M H' v (.str .nesting) → Q v H' := h
      exact h H3 x3 hs3 _ (.str .nesting)
    | kind =>
      have h : ∀ H', Ext a0 H H' → Hs a0 M T H' st1 → ∀ v, Rep a0 M H' v (.str .kind) → Q v H' := h
      exact h H3 x3 hs3 _ (.str .kind)
    | program =>
      have h : ∀ H', Ext a0 H H' → Hs a0 M T H' st1 → ∀ v, Rep a0 M H' v (.str .program) → Q v H' := h
      exact h H3 x3 hs3 _ (.str .program)
    | unlike =>
      have h : ∀ H', Ext a0 H H' → Hs a0 M T H' st1 → ∀ v, Rep a0 M H' v (.str .unlike) → Q v H' := h
      exact h H3 x3 hs3 _ (.str .unlike)
end
end Nk
namespace NkH
open PySem PySem.Spec PyProof.Rows L2 Nk
section
variable {w : World} {K : PySem.W.Frag} {h : Heap} {mg : Str → Option Value}
theorem xk_thrown : ∀ x : Xc, xk x ∈ thrown
  | .nesting => by decide +kernel
  | .kind => by decide +kernel
  | .program => by decide +kernel
  | .unlike => by decide +kernel
  | .many _ => by show ("TooMany" : Str) ∈ thrown; decide +kernel
theorem xk_of : ∀ x : Xc, (clK K).of x = He.ga K (xk x)
  | .nesting => rfl
  | .kind => rfl
  | .program => rfl
  | .unlike => rfl
  | .many _ => rfl
theorem xk_many : ∀ x : Xc, decide (xk x = ("TooMany" : Str)) = isMany x
  | .nesting => by show decide (("InvalidNesting" : Str) = "TooMany") = false; decide +kernel
  | .kind => by show decide (("InvalidKind" : Str) = "TooMany") = false; decide +kernel
  | .program => by show decide (("InvalidProgram" : Str) = "TooMany") = false; decide +kernel
  | .unlike => by show decide (("Unlike" : Str) = "TooMany") = false; decide +kernel
  | .many _ => by show decide (("TooMany" : Str) = "TooMany") = true; decide +kernel
theorem excC_of {D : Addr} (hb : excCB K D = true) : L2.ExcC K D := by
  unfold excCB at hb
  simp only [Bool.and_eq_true, decide_eq_true_eq] at hb
  obtain ⟨⟨⟨⟨⟨⟨⟨h1, h2⟩, h3⟩, h4⟩, h5⟩, h6⟩, h7⟩, h8⟩ := hb
  exact ⟨h1, h2, h3, h4, h5, h6, h7, h8⟩
theorem ans_f (X : K.In h) (G : h.Ns mainGlobals mg) (c : He.SaysX fa fn [] tf ex w h K) : ∃ fd, AnsF K mg (clK K) (He.ga K d_53.name) fd (He.ga K "NestError") := by
  have more := He.ba (He.ba (He.ba c.more).2).1
  have hf : ∀ {x : Str}, x ∈ bltn → mg x = none := fun hx => says_free X G c hx
  obtain ⟨fd, F⟩ := says_fun c (d := d_53) (List.mem_of_getElem? (i := 53) rfl)
  refine ⟨fd, F, He.glo_ok X G (says_fact c (mem_fa1 (List.mem_map.mpr ⟨d_53, List.mem_of_getElem? (i := 53) rfl, rfl⟩))), F.kp, bds d_53 (List.mem_of_getElem? (i := 53) rfl) K _ fd F, fun x => ?_, fun x => ?_, fun x => ?_, He.glo_ok X G (says_fact c (mem_fa3 (by simp))), He.glo_ok X G (says_fact c (mem_fa3 (by simp))), xfB_ok more.2, ?_⟩
  · rw [xk_of]
    have m := He.ba (List.all_eq_true.mp more.1 (xk x) (xk_thrown x))
    have m1 := He.ba m.1
    refine ⟨excC_of m1.1, fun C hC => ?_, of_decide_eq_true m.2, hf (by decide +kernel), hf (by decide +kernel), hf (by decide +kernel)⟩
    have hC' : C ∈ asked := hC
    refine ⟨He.ga K C, ?_, of_decide_eq_true (List.all_eq_true.mp m1.2 C hC')⟩
    rcases List.mem_append.mp hC' with z | z
    · exact He.glo_ok X G (says_fact c (mem_fa2 (List.mem_map.mpr ⟨C, z, rfl⟩)))
    · rw [List.mem_singleton.mp z]
      exact He.glo_ok X G (says_fact c (mem_fa3 (by simp)))
  · rw [xk_of, ← xk_many]
    exact He.exm_ok (says_fact c (mem_fa7 (List.mem_map.mpr ⟨xk x, xk_thrown x, rfl⟩)))
  · rw [xk_of]
    exact He.exm_ok (says_fact c (mem_fa8 (List.mem_map.mpr ⟨xk x, xk_thrown x, rfl⟩)))
  · have t := (He.ba c.more).1
    unfold tmB at t
    simp only [Bool.and_eq_true, decide_eq_true_eq] at t
    exact t.1.1.1.1.2
theorem lam_names : (dds.all fun d => !d.lam || decide (d.name = ("law" : Str)) || decide (d.name = ("_law_right" : Str))) = true := by kernel_rfl
theorem noPars_eq {params : Arguments} (h : noPars params = true) : params = ⟨[], [], none, [], [], none, []⟩ := by
  obtain ⟨a, b, c, d, e, f, g⟩ := params
  unfold noPars at h
  simp only [Bool.and_eq_true, List.isEmpty_iff, Option.isNone_iff_eq_none] at h
  obtain ⟨⟨⟨⟨⟨⟨rfl, rfl⟩, rfl⟩, rfl⟩, rfl⟩, rfl⟩, rfl⟩ := h
  rfl
theorem ans_todo : AnsTodo := by
  intro w K mg base h KX G c hw KB GB tb i d hd hlam f cdv A outer s H E k cal hm hcd hlk hr hgd params body scope lpos p pos b hLS hnp hgl hbody
  let X := cxOf (L2N.CX PP w) PP w K mg base d.N d.name (defScope (topS d.at_)) f cdv A outer s H E
  obtain ⟨fdn, F⟩ := ans_f KX G c
  have wd : Wd PP w K mg := wd_of KX G c
  obtain ⟨g, fdg, hmg, Fg, hbg⟩ := wd.fns 65 d_65 rfl
  have kpg := Fg.kp
  obtain ⟨oc, od, kV, doc, pm, an', cdg, ct, osl, rfl, lk, hcg⟩ := Fg.ex
  have own : ∀ i x, d.N[i]? = some x → d.ownF i = d.own.contains x := fun i x hx => by
    unfold Dd.ownF; rw [hx]
  have S := (Dd.scope (ok_of hd)).1
  have tk0 : L2N.Takes X fun cls d _ H => E cls d H := L2N.takes_of (X := X) rfl rfl rfl rfl
  have ft : Fit X (sxOf d.N d.own d.lam d.drop (topS d.at_)) d.ownF E := ⟨rfl, rfl, own, fun _ _ => rfl, fun _ => ⟨rfl, rfl, tk0, passes_of rfl, S.kind⟩⟩
  have gl : Gl X "_law_answer" := (isGl_of ft hgl).1
  have two : d.name = ("law" : Str) ∨ d.name = ("_law_right" : Str) := by
    have z := List.all_eq_true.mp lam_names d (List.mem_of_getElem? hd)
    rw [hlam] at z
    simp only [Bool.not_true, Bool.false_or, Bool.or_eq_true, decide_eq_true_eq] at z
    exact z
  have hfa : f = He.ga K d.name := by
    have z := He.glo_ok KX G (says_fact c (mem_fa1 (List.mem_map.mpr ⟨d, List.mem_of_getElem? hd, rfl⟩)))
    rw [hm] at z
    cases z
    rfl
  have hne : (He.cT K ("law", none)).2 ≠ (He.cT K ("_law_right", none)).2 := of_decide_eq_true (He.ba (He.ba c.more).2).2
  obtain ⟨oc', od', fdd, osl', lkf, hcode⟩ := hlk
  obtain ⟨ca, hca⟩ := He.codeIn_ref hcd
  have hc1 : (He.cT K (d.name, none)).1 = ca := by
    rw [hfa] at lkf
    exact He.codeOf_eq (p := (d.name, none)) lkf (hcode.trans hca)
  have hmem : (d.name, (none : Option Str)) ∈ tf := by
    rcases two with e | e
    · rw [e]; exact .head _
    · rw [e]; exact .tail _ (.head _)
  have TB := tb _ (List.mem_map.mpr ⟨_, hmem, rfl⟩)
  rw [hc1] at TB
  refine PE.imp (lamcall_N (X := X) (T := tlK K) (TT := TTa (clK K)) (lev := k) gl hmg kpg lk hcg hbg an_scope rfl (.inl (by kernel_rfl)) (ans_gives F) TB (by show cdv = _; exact hca) ?_ ?_ hr (LamX.lamS_by hLS) ?_ ?_ (fun A1 outer1 s1 H1 E1 f1 c1 hr1 => ?_) (by decide +kernel) (by decide +kernel) (by decide +kernel)) ans_read
  · rcases two with e | e
    · show (_, (d.name ++ ".<locals>.") ++ "<lambda>") ∈ _
      rw [e]; exact .head _
    · show (_, (d.name ++ ".<locals>.") ++ "<lambda>") ∈ _
      rw [e]; exact .tail _ (.head _)
  · intro q hq e1
    show q.2 = (d.name ++ ".<locals>.") ++ "<lambda>"
    rcases List.mem_cons.mp hq with rfl | hq
    · rcases two with e | e
      · rw [e]; rfl
      · rw [e] at e1; exact absurd e1 hne
    · rcases List.mem_cons.mp hq with rfl | hq
      · rcases two with e | e
        · rw [e] at e1; exact absurd e1.symm hne
        · rw [e]; rfl
      · cases hq
  · rw [noPars_eq hnp]; rfl
  · intro q cl pm' cv ctv
    rw [noPars_eq hnp]; rfl
  · have tk : L2N.Takes (lamN X A1 outer1 s1 H1 E1 scope f1 c1) fun cls d _ H => E1 cls d H := L2N.takes_of (X := lamN X A1 outer1 s1 H1 E1 scope f1 c1) rfl rfl rfl rfl
    exact hbody _ E1 (hgd _ E1 rfl rfl rfl rfl rfl rfl S.nd hr1 (L2N.passes_call tk fun _ _ _ _ h => h)) ⟨rfl, rfl, own, (fun _ z => nomatch z), (fun z => nomatch z)⟩
end
end NkH
end
section
set_option Elab.async false
set_option linter.all false
set_option maxRecDepth 100000
set_option maxHeartbeats 1000000
/-! < and sorted of nested tuples, dict(..) of pairs whose keys are tuples -/
namespace Nk
open PySem PySem.Spec PyProof.Rows L2
section
variable {X : Cx}
/-- x < y of nested data -/
def rLtD (K : PySem.W.Frag) : R2 := fun x y H Q => ∃ d e, Dp K H x d ∧ Dp K H y e ∧ PySem.W.alike d e = true ∧ d ≠ .none ∧ d.depth ≤ 8 ∧ Q (.bl (PySem.W.dataLt d e)) H
theorem op_ltD (hu : X.A.units + 9 < cLine) : OpR X (compareOp .Lt) (rLtD X.K) := by
  intro pins s σ H x y v u Q I rx ry h
  obtain ⟨d, e, hd, he, hal, hn, hdep, q⟩ := h
  obtain ⟨as, r1⟩ := Dp.reads I d x v hd rx
  obtain ⟨bs, r2⟩ := Dp.reads I e y u he ry
  have z : wpAny (model X.prog X.w) X.A (compareOp .Lt v u) (EP X pins σ Q) X.xe s := PySem.W.rcLt_alike d e X.A s v u as bs r1 r2 hal hn (by omega) X.prog X.w X.xe (EP X pins σ Q) ⟨.bl _, H, I, rfl, q⟩
  exact z
theorem each_vals : ∀ {bs : List (V × PyData)} {us : List Value}, Vals (bs.map (·.1)) us → PySem.W.EachIs (fun v (b : V × PyData) => RelV b.1 v) us bs
  | [], us, r => by
    rw [List.map_nil] at r
    cases r
    exact .nil
  | b :: bs, us, r => by
    rw [List.map_cons] at r
    cases r with
    | cons h t => exact .cons h (each_vals t)
theorem vals_each : ∀ {bs : List (V × PyData)} {us : List Value}, PySem.W.EachIs (fun v (b : V × PyData) => RelV b.1 v) us bs → Vals (bs.map (·.1)) us
  | [], us, r => by
    cases r
    exact .nil
  | b :: bs, us, r => by
    cases r with
    | cons h t => exact .cons h (vals_each t)
theorem each_reads {pins : List (Addr × Obj)} {σ : L2.St} {H : Hp} {s : Shared} (I : Inv X pins σ H s) : ∀ {bs : List (V × PyData)} {us : List Value}, (∀ b ∈ bs, Dp X.K H b.1 b.2) → PySem.W.EachIs (fun v (b : V × PyData) => RelV b.1 v) us bs → PySem.W.EachIs (fun v (b : V × PyData) => ∃ as, Reads s.heap v b.2 as) us bs
  | [], us, _, r => by
    cases r
    exact .nil
  | b :: bs, us, hb, r => by
    cases r with
    | cons h t => exact .cons (Dp.reads I _ _ _ (hb _ List.mem_cons_self) h) (each_reads I (fun b' m => hb b' (List.mem_cons_of_mem _ m)) t)
/-- sorted(xs) of nested data -/
def rSortD (K : PySem.W.Frag) : List V → Hp → VK → Prop := fun vs H Q => ∃ (a : Addr) (bs : List (V × PyData)), vs = [V.ref a] ∧ SqL K H a (bs.map (·.1)) ∧ (∀ b ∈ bs, Dp K H b.1 b.2) ∧ PySem.W.AllAlike (bs.map (·.2)) ∧ PySem.W.Sortable (bs.map (·.2)) ∧ (∀ b ∈ bs, b.2.depth ≤ 8) ∧
  ∀ p, H p = none → Q (.ref p) (upd H p (.lst ((bs.mergeSort (PySem.W.dataLe false (·.2))).map (·.1))))
theorem cr_sortD (hu : X.A.units + 11 < cLine) : CallR X (.builtin "sorted") (rSortD X.K) := by
  intro pins s σ H vs us Q I r h
  obtain ⟨a, bs, rfl, hs, hd, hal, hk, hdep, q⟩ := h
  obtain ⟨its, rv, hl, hz⟩ := I.list hs
  rw [Vals.ref1 r]
  have e := each_vals rv
  refine PySem.W.sorted_data (R := fun v (b : V × PyData) => RelV b.1 v) (enc := fun b : V × PyData => b.2) hl.isList e (each_reads I hd e) hal hk (by rw [List.length_map] at hz; exact hz) (fun b hb => by have := hdep b hb; omega) fun out hlen ho => ?_
  obtain ⟨ep, he'⟩ := PyProof.Rows.sortedAll_at s.heap its out.toArray
  refine ⟨.ref _, upd H (s.heap.objs.size + 1) (.lst ((bs.mergeSort (PySem.W.dataLe false (·.2))).map (·.1))), I.laid (t' := s.toks) (fun _ _ => PyProof.Rows.sortedAll_old) (Nat.le_succ _) ⟨?_, out, ep, vals_each ho, he'⟩, rfl, q _ (I.hok.fresh (Nat.le_succ _))⟩
  rw [List.length_map, List.length_mergeSort]
  rw [List.length_map] at hz; exact hz
def mergeT (kvs more : List (List Key × V)) : List (List Key × V) := more.foldl (fun acc kv => putK acc kv.1 kv.2) kvs
theorem KT.merge {H : Hp} {more : List (List Key × V)} {rs : List (List Key × Addr × Value)} (r : KT H more rs) : ∀ {kvs : List (List Key × V)} {vs : List (List Key × Addr × Value)}, KT H kvs vs → KT H (mergeT kvs more) (storedAllH vs rs) := by
  induction r with
  | nil => intro kvs vs q; exact q
  | @cons p q ps qs h t ih =>
    intro kvs vs z
    obtain ⟨k, b, v⟩ := q
    obtain ⟨h1, h2, h3⟩ := h
    have h1 : p.1 = k := h1
    subst h1
    exact ih (KT.put z p.1 h2 h3)
/-- the pairs of a list, as they lie -/
theorem tpairs_of {pins : List (Addr × Obj)} {σ : L2.St} {H : Hp} {s : Shared} (I : Inv X pins σ H s) : ∀ {ps : List Addr} {kvs : List (List Key × V)}, Paired (fun p kv => ∃ b, SqT X.K H p [.ref b, kv.2] ∧ H b = some (.tup (kv.1.map kV))) ps kvs →
    ∃ rs : List (List Key × Addr × Value), KT H kvs rs ∧ rs.length = ps.length ∧ ∀ (j : Nat) (q : List Key × Addr × Value), rs[j]? = some q → ∃ b, ps[j]? = some b ∧ IsTup s.heap b #[.ref q.2.1, q.2.2] ∧ (tupleKind (mixKind X.prog X.w)).is s.heap q.1 q.2.1
  | _, _, .nil => ⟨[], .nil, rfl, fun j q e => by simp at e⟩
  | _, _, .cons (a := p) (b := kv) h t => by
    obtain ⟨rs, r, hl, hp⟩ := tpairs_of I t
    obtain ⟨b, hs, hb⟩ := h
    obtain ⟨its, rv, ht, _⟩ := I.tuple hs
    obtain ⟨u, y, ei, ru, ry⟩ := vals2 rv
    subst ei
    obtain rfl : u = Value.ref b := ru
    refine ⟨(kv.1, b, y) :: rs, .cons ⟨rfl, hb, ry⟩ r, by rw [List.length_cons, List.length_cons, hl], fun j q e => ?_⟩
    cases j with
    | zero =>
      have e' : (kv.1, b, y) = q := Option.some.inj e
      subst e'
      exact ⟨p, rfl, ht, key_of I.hok hb⟩
    | succ j =>
      obtain ⟨b', e1, e2⟩ := hp j q (by simpa using e)
      exact ⟨b', by simpa using e1, e2⟩
/-- dict(xs) of pairs whose keys are tuples of ints and texts -/
def rDictT (K : PySem.W.Frag) : List V → Hp → VK → Prop := fun xs H Q => ∃ (a : Addr) (ps : List Addr) (kvs : List (List Key × V)), xs = [.ref a] ∧ SqL K H a (ps.map V.ref) ∧ Paired (fun p kv => ∃ b, SqT K H p [.ref b, kv.2] ∧ H b = some (.tup (kv.1.map kV))) ps kvs ∧
  ∀ p, H p = none → Q (.ref p) (upd H p (.dT (mergeT [] kvs)))
theorem cr_dictT (hcalm : X.calm = true) (hu : X.A.units + 3 < cLine) : CallR X (.type "dict") (rDictT X.K) := by
  intro pins s σ H xs us Q I r q
  obtain ⟨a, ps, kvs, ex, hq, hp, q⟩ := q
  subst ex
  rw [Vals.ref1 r]
  obtain ⟨its, rv, pl, hz⟩ := I.list hq
  have ei := refs_at rv
  subst ei
  rw [List.length_map] at hz
  obtain ⟨rs, rel, hl, hpr⟩ := tpairs_of I hp
  obtain ⟨o, n, ho, hc, hd, hdat⟩ := pl
  have big : ∀ b u, s.heap.get? b = some u → b ≠ s.heap.objs.size := fun b u e => Nat.ne_of_lt (Heap.lt_size e)
  refine call_dict_pairsH (knd := tupleKind (mixKind X.prog X.w)) (ps := rs) (PairArg.list a (ps.map Value.ref).toArray (fun j => ps.getD j 0) (rs.map fun x => (Value.ref x.2.1, x.2.2))) (I.ok.hd hcalm) (show (tupleKind (mixKind X.prog X.w)).room X.A.in1.in1 from by
    show X.A.units + 1 + 1 < cLine
    omega) ⟨⟨o, n, ho, hc, hd, hdat⟩, by simp [hl], fun j k v e => ?_⟩ ⟨by simp, fun i key v e => ?_⟩ (fun h' hk x hx => ?_) (by rw [List.length_map, hl]; exact hz) fun h' tk hd' k => ?_
  · rw [List.getElem?_map] at e
    obtain ⟨q', hq', e⟩ := Option.map_eq_some_iff.mp e
    cases e
    obtain ⟨b, e1, e2, _⟩ := hpr j q' hq'
    have eb : ps.getD j 0 = b := by rw [List.getD_eq_getElem?_getD, e1]; rfl
    refine ⟨?_, .inl ?_⟩
    · simp [e1, eb]
    · show s.heap.IsTuple (ps.getD j 0) _
      rw [eb]
      obtain ⟨o', g1, g2, n', g3⟩ := e2
      exact ⟨o', g1, g2, n', g3⟩
  · have e : (rs.map fun x => (Value.ref x.2.1, x.2.2))[i]? = some (key, v) := e
    rw [List.getElem?_map] at e
    obtain ⟨q', hq', e⟩ := Option.map_eq_some_iff.mp e
    cases e
    exact ⟨q'.1, q'.2.1, hq', rfl⟩
  · obtain ⟨j, hj⟩ := List.getElem?_of_mem hx
    obtain ⟨_, _, _, o', its', n', g1, g2, g3, g4⟩ := hpr j x hj
    exact ⟨o', its', n', hk _ _ (big _ _ g1) (by simp) g1, g2, g3, g4⟩
  · have hm : (s.heap.objs.size == sysModules) = false := beq_eq_false_iff_ne.mpr (Nat.ne_of_gt I.big)
    have km : ∀ (more : List (List Key × V)) (acc : List (List Key × V)), (mergeT acc more).length ≤ acc.length + more.length := fun more => by
      induction more with
      | nil => intro acc; exact Nat.le_refl _
      | cons p r ih =>
        intro acc
        refine Nat.le_trans (ih (putK acc p.1 p.2)) ?_
        have : (putK acc p.1 p.2).length ≤ acc.length + 1 := by
          unfold putK
          split
          · rw [List.length_map]; omega
          · rw [List.length_append]; exact Nat.le_refl _
        rw [List.length_cons]
        omega
    have hlen : (mergeT [] kvs).length ≤ sizeLine := by
      refine Nat.le_trans (km kvs []) ?_
      rw [List.length_nil, Nat.zero_add, rel.length, hl]
      exact hz
    have hfr := I.hok.fresh (Nat.le_refl s.heap.objs.size)
    obtain ⟨o', es, ep, g1, g2, g3, g4, _, g6⟩ := hd'
    refine ⟨.ref s.heap.objs.size, upd H s.heap.objs.size (.dT (mergeT [] kvs)), I.laid (t' := tk) (fun b u e => k b u (by simp) e) (Nat.le_refl _) ⟨hlen, hm, storedAllH [] rs, KT.keeps (KT.merge rel .nil) fun b ys e => by rw [upd_ne (ne_of_none e hfr)]; exact e, o', es, ep, g1, g2, g3, g4, g6⟩, rfl, q _ hfr⟩
end
end Nk
end
section
set_option Elab.async false
set_option linter.all false
set_option maxRecDepth 100000
set_option maxHeartbeats 1000000
/-! first_rows at the one input -/
namespace Nk
open PySem PySem.Spec PyProof.Rows L2
/-- a def by its body, at level 0: the caller's room is enough -/
theorem fn_of0 {CX : CXT} {P : Program} {w : World} {K : PySem.W.Frag} {mg : Str → Option Value} {base : Heap} {f : Addr} {name qual : Str} {params : Arguments} {body : List Stmt} {scope : Scope} {dV kV doc pm cdv ct oc : Value} {an od : Option Addr}
    {osl : Array (Option Value)} {N ps : List Str} {sp : Sp} (lk : K.lookup f = some ⟨oc, od, .func (PySem.W.fnOf name qual params body scope dV kV doc pm an cdv ct), osl⟩) (hcd : PySem.W.codeIn K cdv qual = true) (S : FnScope N ps scope)
    (len : ∀ vs H Q E, sp vs H Q E → vs.length = ps.length)
    (hbody : ∀ (A : Around) (outer : List PySem.Env) (s : Shared) (H : Hp) (vs : List V) (Q : VK) (E : XK), (A.deeper (envOfC qual scope s.heap.objs.size f cdv)).handled = none → (A.deeper (envOfC qual scope s.heap.objs.size f cdv)).units + 180 < cLine → sp vs H Q E →
      ∃ t, PSs (cxOf CX P w K mg base N qual scope f cdv A outer s H E) body t ∧ t { nx := fun _ H' => Q .non H', rt := Q } (L2.start N vs) H) :
    FnOk P w K mg base CX 0 f (PySem.W.fnOf name qual params body scope dV kV doc pm an cdv ct) ps sp := by
  refine ⟨len, fun A outer s H args us vs Q E hr e0 hb r hsp => ?_⟩
  have hl := len _ _ _ _ hsp
  have KX : K.In s.heap := e0.mod.kin.keeps fun b o e => (e0.bs b o e).1
  have lim : s.heap.NoLimit := e0.mod.nolimit.keeps fun b o e => (e0.bs b o e).1
  have hkind : ∀ y ∈ ps.zip us, scope.names.lookup y.1 = some .local ∨ (scope.names.lookup y.1 = some .cell ∧ ((cellsFrom (s.heap.objs.size + 1) scope.names []).lookup y.1).isSome = true) := fun ⟨n, v⟩ hy => by
    rcases S.par n (List.of_mem_zip hy).1 with q | q
    · exact .inl q
    · exact .inr ⟨q, PySem.W.cellsFrom_some _ _ _ (.inl q)⟩
  refine codeAny_call_function hr.depth (KX _ _ lk) rfl S.co S.gen rfl (PySem.W.codeRec_of KX hcd) (hb _ _ _ _ ?_)
  refine wpAny_newFunctionEnv_cells S.kind hkind fun env he s1 x => ?_
  subst he
  refine ⟨lim.keeps x.toInCall.keep, codeAny_func ?_⟩
  obtain ⟨t, ht, hq⟩ := hbody A outer s H vs Q E hr.hd (by have := hr.un; show A.units + 3 + 180 < _; omega) hsp
  have I : Inv (cxOf CX P w K mg base N qual scope f cdv A outer s H E) [] (L2.start N vs) H s1 := inv_start S hr.hd e0 hl r x
  refine wpAny_mono (ht.run [] s1 (L2.start N vs) H _ I hq) (fun fl s' hs => ?_) fun e s' hs => hs
  cases fl with
  | ret u => obtain ⟨v, _, H', J, rv, q⟩ := hs; exact ⟨v, H', J.os, J.bare, J.base, J.hok, rv, q⟩
  | next => obtain ⟨_, H', J, q⟩ := hs; exact ⟨.non, H', J.os, J.bare, J.base, J.hok, rfl, q⟩
  | brk => obtain ⟨_, _, _, q⟩ := hs; exact q.elim
  | cont => obtain ⟨_, _, _, q⟩ := hs; exact q.elim
/-! ### the table -/
def tv (h s i : Nat) : Int := if h = 0 ∧ s = 0 ∧ i = 0 then 0 else 1
def TabR (H : Hp) (t : Addr) : Prop := ∃ (r : Nat → Addr) (a : Nat → Nat → Addr), H t = some (.tup [.ref (r 0), .ref (r 1)]) ∧ (∀ h, h < 2 → H (r h) = some (.tup [.ref (a h 0), .ref (a h 1)])) ∧ ∀ h s, h < 2 → s < 2 → H (a h s) = some (.tup [.int (tv h s 0), .int (tv h s 1)])
/-- all but what lies at f stays -/
def Kb (f : Addr) (H H' : Hp) : Prop := ∀ b o, b ≠ f → H b = some o → H' b = some o
theorem Kb.refl {f : Addr} {H : Hp} : Kb f H H := fun _ _ _ e => e
theorem Kb.trans {f : Addr} {H H1 H2 : Hp} (x : Kb f H H1) (y : Kb f H1 H2) : Kb f H H2 := fun b o n e => y b o n (x b o n e)
theorem Kb.new {f p : Addr} {o : HO} {H : Hp} (np : H p = none) : Kb f H (upd H p o) := fun b u _ e => by rw [upd_ne (ne_of_none e np)]; exact e
theorem Kb.at {f : Addr} {o : HO} {H : Hp} : Kb f H (upd H f o) := fun b u n e => by rw [upd_ne n]; exact e
theorem TabR.keep {f t : Addr} {H H' : Hp} {ks : List (Key × V)} (x : TabR H t) (hf : H f = some (.dK ks)) (k : Kb f H H') : TabR H' t := by
  obtain ⟨r, a, h1, h2, h3⟩ := x
  have ne : ∀ {b : Addr} {xs : List V}, H b = some (.tup xs) → b ≠ f := fun e z => by rw [z, hf] at e; cases e
  exact ⟨r, a, k _ _ (ne h1) h1, fun h hh => k _ _ (ne (h2 h hh)) (h2 h hh), fun h s hh hs => k _ _ (ne (h3 h s hh hs)) (h3 h s hh hs)⟩
section
variable {X : Cx}
/-- table[here][stand][inner] -/
def tT3 (kt kh ks ki : Nat) : TE := fun σ H Q => ∃ (t : Addr) (h s i : Nat), σ[kt]? = some (some (.ref t)) ∧ σ[kh]? = some (some (.int (h : Int))) ∧ σ[ks]? = some (some (.int (s : Int))) ∧ σ[ki]? = some (some (.int (i : Int))) ∧ TabR H t ∧ h < 2 ∧ s < 2 ∧ i < 2 ∧ Q (.int (tv h s i)) H
theorem two_cases {n : Nat} (h : n < 2) : n = 0 ∨ n = 1 := by omega
theorem pe_t3 {kt kh ks ki : Nat} {xt xh xs xi : Str} {p1 p2 p3 p4 p5 p6 p7 : Pos} (et : PE X (.Name xt p1) (tVar kt)) (eh : PE X (.Name xh p2) (tVar kh)) (es : PE X (.Name xs p3) (tVar ks)) (ei : PE X (.Name xi p4) (tVar ki)) :
    PE X (.Subscript (.Subscript (.Subscript (.Name xt p1) (.Name xh p2) p5) (.Name xs p3) p6) (.Name xi p4) p7) (tT3 kt kh ks ki) := by
  refine PE.imp (pe_ix ix_tup (pe_ix ix_tup (pe_ix ix_tup et eh (fun _ _ => rfl)) es (fun _ _ => rfl)) ei (fun _ _ => rfl)) fun σ H Q q => ?_
  obtain ⟨t, h, s, i, a1, a2, a3, a4, ⟨r, a, h1, h2, h3⟩, l1, l2, l3, q⟩ := q
  refine ⟨.ref t, a1, .int h, a2, t, _, _, .ref (r h), rfl, rfl, .inl (.inl h1), ?_, .int s, a3, r h, _, _, .ref (a h s), rfl, rfl, .inl (.inl (h2 h l1)), ?_, .int i, a4, a h s, _, _, .int (tv h s i), rfl, rfl, .inl (.inl (h3 h s l1 l2)), ?_, q⟩
  · rcases two_cases l1 with rfl | rfl <;> rfl
  · rcases two_cases l2 with rfl | rfl <;> rfl
  · rcases two_cases l3 with rfl | rfl <;> rfl
/-! ### the dict -/
def FD (two : Bool) (H : Hp) (f : Addr) : Prop := ∃ z e, H z = some (.tup [.int 0, .ref e]) ∧ H e = some (.tup []) ∧ (two = false → H f = some (.dK [(.inl 0, .ref z)])) ∧
  (two = true → ∃ y q r e', H f = some (.dK [(.inl 0, .ref z), (.inl 1, .ref y)]) ∧ H y = some (.tup [.int 1, .ref q]) ∧ H q = some (.tup [.ref r]) ∧ H r = some (.tup [.int 1, .ref e']) ∧ H e' = some (.tup []))
theorem FD.dict {two : Bool} {H : Hp} {f : Addr} (x : FD two H f) : ∃ ks, H f = some (.dK ks) := by
  obtain ⟨z, e, _, _, h1, h2⟩ := x
  cases two with
  | false => exact ⟨_, h1 rfl⟩
  | true => obtain ⟨_, _, _, _, h, _⟩ := h2 rfl; exact ⟨_, h⟩
theorem FD.new {two : Bool} {H : Hp} {f p : Addr} {o : HO} (x : FD two H f) (np : H p = none) : FD two (upd H p o) f := by
  obtain ⟨z, e, h1, h2, h3, h4⟩ := x
  have g : ∀ {b u}, H b = some u → upd H p o b = some u := fun e => by rw [upd_ne (ne_of_none e np)]; exact e
  refine ⟨z, e, g h1, g h2, fun t => g (h3 t), fun t => ?_⟩
  obtain ⟨y, q, r, e', a1, a2, a3, a4, a5⟩ := h4 t
  exact ⟨y, q, r, e', g a1, g a2, g a3, g a4, g a5⟩
/-- what is told at a key -/
theorem FD.get {two : Bool} {H : Hp} {f : Addr} (x : FD two H f) {h : Nat} (hh : h = 0 ∨ (h = 1 ∧ two = true)) : ∃ v q, DGet H f (.int (h : Int)) (some (.ref v)) ∧ H v = some (.tup [.int (h : Int), .ref q]) ∧ (∃ xs, H q = some (.tup xs)) ∧ (h = 0 → H q = some (.tup [])) := by
  obtain ⟨z, e, h1, h2, h3, h4⟩ := x
  cases two with
  | false =>
    rcases hh with rfl | ⟨_, z⟩
    · exact ⟨z, e, .inl ⟨_, .inl 0, .inl (h3 rfl), rfl, rfl⟩, h1, ⟨_, h2⟩, fun _ => h2⟩
    · cases z
  | true =>
    obtain ⟨y, q, r, e', a1, a2, a3, a4, a5⟩ := h4 rfl
    rcases hh with rfl | ⟨rfl, _⟩
    · exact ⟨z, e, .inl ⟨_, .inl 0, .inl a1, rfl, rfl⟩, h1, ⟨_, h2⟩, fun _ => h2⟩
    · exact ⟨y, q, .inl ⟨_, .inl 1, .inl a1, rfl, rfl⟩, a2, ⟨_, a3⟩, fun z => by cases z⟩
theorem FD.no {H : Hp} {f : Addr} (x : FD false H f) : DGet H f (.int 1) none := by
  obtain ⟨z, e, h1, h2, h3, h4⟩ := x
  exact .inl ⟨_, .inl 1, .inl (h3 rfl), rfl, rfl⟩
/-- found[x][0], found[x][1] -/
def tF (kf kx : Nat) (j : Bool) : TE := fun σ H Q => ∃ (two : Bool) (f : Addr) (h : Nat), σ[kf]? = some (some (.ref f)) ∧ σ[kx]? = some (some (.int (h : Int))) ∧ FD two H f ∧ (h = 0 ∨ (h = 1 ∧ two = true)) ∧
  (j = false → Q (.int (h : Int)) H) ∧ (j = true → ∀ q, (∃ xs, H q = some (.tup xs)) → (h = 0 → H q = some (.tup [])) → Q (.ref q) H)
theorem pe_f0 {kf kx : Nat} {xf xx : Str} {p1 p2 p3 p4 p5 : Pos} {jj : Nat} (hu : X.A.units + 1 < cLine) (ef : PE X (.Name xf p1) (tVar kf)) (ex : PE X (.Name xx p2) (tVar kx)) :
    PE X (.Subscript (.Subscript (.Name xf p1) (.Name xx p2) p3) (.Constant (.int 0) jj p4) p5) (tF kf kx false) := by
  refine PE.imp (pe_ix ix_tup (pe_dget hu ef ex (fun _ _ => rfl)) pe_int (fun _ _ => rfl)) fun σ H Q q => ?_
  obtain ⟨two, f, h, a1, a2, fd, hh, q, _⟩ := q
  obtain ⟨v, qq, g1, g2, _⟩ := fd.get hh
  exact ⟨.ref f, a1, .int h, a2, f, .ref v, rfl, g1, v, _, _, .int h, rfl, rfl, .inl (.inl g2), rfl, q rfl⟩
theorem pe_f1 {kf kx : Nat} {xf xx : Str} {p1 p2 p3 p4 p5 : Pos} {jj : Nat} (hu : X.A.units + 1 < cLine) (ef : PE X (.Name xf p1) (tVar kf)) (ex : PE X (.Name xx p2) (tVar kx)) :
    PE X (.Subscript (.Subscript (.Name xf p1) (.Name xx p2) p3) (.Constant (.int 1) jj p4) p5) (tF kf kx true) := by
  refine PE.imp (pe_ix ix_tup (pe_dget hu ef ex (fun _ _ => rfl)) pe_int (fun _ _ => rfl)) fun σ H Q q => ?_
  obtain ⟨two, f, h, a1, a2, fd, hh, _, q⟩ := q
  obtain ⟨v, qq, g1, g2, g3, g4⟩ := fd.get hh
  exact ⟨.ref f, a1, .int h, a2, f, .ref v, rfl, g1, v, _, _, .ref qq, rfl, rfl, .inl (.inl g2), rfl, q rfl qq g3 g4⟩
end
end Nk
end
section
set_option Elab.async false
set_option linter.all false
set_option maxRecDepth 100000
set_option maxHeartbeats 1000000
/-! first_rows at the one input: the body -/
namespace Nk
open PySem PySem.Spec PyProof.Rows L2
def at1 (l : List Stmt) (i : Nat) : List Stmt := match l[i]? with
  | some (.For _ _ b _ _) => b
  | some (.While _ b _ _) => b
  | _ => []
def w11 : List Stmt := at1 (defBody (topS d_11.at_)) 2
def here11 : List Stmt := at1 w11 1
def inner11 : List Stmt := at1 here11 0
def stand11 : List Stmt := at1 inner11 0
abbrev X11 (w : World) (K : PySem.W.Frag) (mg : Str → Option Value) (base : Heap) (fa : Addr) (cdv : Value) (A : Around) (outer : List PySem.Env) (s : Shared) (H : Hp) (E : XK) : Cx := cxOf (L2N.CX NkH.PP w) NkH.PP w K mg base d_11.N d_11.name (defScope (topS d_11.at_)) fa cdv A outer s H E
abbrev s11 (t f : Addr) (g : Bool) (x4 x5 x6 x7 x8 x9 : Option V) : L2.St := [some (.ref t), some (.int 2), some (.ref f), some (.bl g), x4, x5, x6, x7, x8, x9]
section
variable {w : World} {K : PySem.W.Frag} {mg : Str → Option Value} {base : Heap} {fa : Addr} {cdv : Value} {A : Around} {outer : List PySem.Env} {s0 : Shared} {H0 : Hp} {E : XK}
def in11 : TS := fun D σ H => ∃ (two g : Bool) (t f : Addr) (h i s : Nat) (x7 x8 x9 : Option V), σ = s11 t f g (some (.int (h : Int))) (some (.int (i : Int))) (some (.int (s : Int))) x7 x8 x9 ∧ TabR H t ∧ FD two H f ∧ h < 2 ∧ i < 2 ∧ s < 2 ∧ (two = false → h = 0 ∧ i = 0) ∧
  ∀ x7 x8 x9 H', FD (two || decide (s = 1)) H' f → Kb f H H' → D.nx (s11 t f (cond (!two && decide (s = 1)) true g) (some (.int (h : Int))) (some (.int (i : Int))) (some (.int (s : Int))) x7 x8 x9) H'
theorem le_sz {n : Nat} (h : n ≤ 1000) : n ≤ sizeLine := by rw [sizeLine_eq]; omega
def P1 : PyData := .tuple [.int 1, .tuple [.tuple [.int 1, .tuple []]]]
theorem dp_int {K : PySem.W.Frag} {H : Hp} (i : Int) : Dp K H (.int i) (.int i) := .int _
theorem dp_e {K : PySem.W.Frag} {H : Hp} {e : Addr} (h : H e = some (.tup [])) : Dp K H (.ref e) (.tuple []) := .tup (SqT.of h) .nil
theorem dp_1 {K : PySem.W.Frag} {H : Hp} {y q r e : Addr} (a2 : H y = some (.tup [.int 1, .ref q])) (a3 : H q = some (.tup [.ref r])) (a4 : H r = some (.tup [.int 1, .ref e])) (a5 : H e = some (.tup [])) : Dp K H (.ref y) P1 :=
  .tup (SqT.of a2) (.cons (dp_int 1) (.cons (.tup (SqT.of a3) (.cons (.tup (SqT.of a4) (.cons (dp_int 1) (.cons (dp_e a5) .nil))) .nil)) .nil))
theorem lt_11 : PySem.W.dataLt P1 P1 = false := by simp [PySem.W.dataLt, PyProof.Rows.lex_irrefl]
theorem alike_11 : PySem.W.alike P1 P1 = true := by simp [P1, PySem.W.alike, PySem.W.alikeAll]
theorem FD.deep {K : PySem.W.Frag} {H : Hp} {f : Addr} (x : FD true H f) : ∃ v, DGet H f (.int 1) (some (.ref v)) ∧ Dp K H (.ref v) P1 := by
  obtain ⟨z, e, h1, h2, h3, h4⟩ := x
  obtain ⟨y, q, r, e', a1, a2, a3, a4, a5⟩ := h4 rfl
  exact ⟨y, .inl ⟨_, .inl 1, .inl a1, rfl, rfl⟩, dp_1 a2 a3 a4 a5⟩
/-- the second key's store -/
theorem FD.put {H : Hp} {f y q r e : Addr} (x : FD false H f) (a2 : H y = some (.tup [.int 1, .ref q])) (a3 : H q = some (.tup [.ref r])) (a4 : H r = some (.tup [.int 1, .ref e])) (a5 : H e = some (.tup [])) :
    ∃ H4, DPut H f (.int 1) (.ref y) H4 ∧ FD true H4 f ∧ Kb f H H4 := by
  obtain ⟨z, e0, h1, h2, h3, h4⟩ := x
  have hf := h3 rfl
  have g : ∀ {b : Addr} {xs : List V} {o : HO}, H b = some (.tup xs) → upd H f o b = some (.tup xs) := fun {b xs o} e => by
    have : b ≠ f := fun z => by rw [z, hf] at e; cases e
    rw [upd_ne this]; exact e
  refine ⟨upd H f (.dK [(.inl 0, .ref z), (.inl 1, .ref y)]), .inl ⟨_, .inl 1, hf, rfl, by show 1 < sizeLine; rw [sizeLine_eq]; omega, rfl⟩, ⟨z, e0, g h1, g h2, (fun t => nomatch t), fun _ => ⟨y, q, r, e, upd_same, g a2, g a3, g a4, g a5⟩⟩, Kb.at⟩
theorem n11 : d_11.N.Nodup := by decide +kernel
theorem in_ps (hu : (X11 w K mg base fa cdv A outer s0 H0 E).A.units + 100 < cLine) : PSs (X11 w K mg base fa cdv A outer s0 H0 E) stand11 in11 := by
  let X := X11 w K mg base fa cdv A outer s0 H0 E
  have hu1 : X.A.units + 1 < cLine := by have : X.A.units + 100 < cLine := hu; omega
  have hu9 : X.A.units + 9 < cLine := by have : X.A.units + 100 < cLine := hu; omega
  refine PSs.imp (pss_cons (ps_set (X := X) (i := 7) n11 rfl (.inl rfl) (pe_t3 (pv 0) (pv 4) (pv 6) (pv 5)) rfl)
    (pss_cons (ps_set (X := X) (i := 8) n11 rfl (.inl rfl) (pe_op op_add (pe_op op_add (pe_f0 hu1 (pv 2) (pv 4)) pe_int) (pe_f0 hu1 (pv 2) (pv 5))) rfl)
    (pss_one (ps_if (PW.pt (pw_or (pt_cmp (pc_dnotin hu1 (pv 7) (pv 2))) (pw_or1 (pt_cmp (pc_le (pv 8) (pe_f0 hu1 (pv 2) (pv 7)))))))
      (pss_cons (ps_set (X := X) (i := 9) n11 rfl (.inl rfl) (pe_tup (pa_cons (pv 8) (pa_cons (pe_op op_catA (pe_f1 hu1 (pv 2) (pv 4)) (pe_tup (pa_cons (pe_tup (pa_cons (pv 6) (pa_cons (pe_f1 hu1 (pv 2) (pv 5)) pa_nil))) pa_nil))) pa_nil))) rfl)
      (pss_one (ps_if (PW.pt (pw_or (pt_cmp (pc_dnotin hu1 (pv 7) (pv 2))) (pw_or1 (pt_cmpR (op_ltD hu9) (pv 9) (pe_dget hu1 (pv 2) (pv 7) (fun _ _ => rfl)) rfl))))
        (pss_cons (ps_dput hu1 (pv 2) (pv 7) (pv 9) rfl) (pss_one (ps_set (X := X) (i := 3) n11 rfl (.inl rfl) pe_bl rfl)))
        pss_nil)))
      pss_nil)))) fun D σ H q => ?_
  obtain ⟨two, g, t, f, h, i, s, x7, x8, x9, rfl, T, F, lh, li, ls, h00, nx⟩ := q
  have hk : ∀ n, n < 2 → (two = false → n = 0) → n = 0 ∨ (n = 1 ∧ two = true) := fun n hn hz => by
    cases two with
    | false => exact .inl (hz rfl)
    | true => rcases two_cases hn with e | e
              · exact .inl e
              · exact .inr ⟨e, rfl⟩
  refine ⟨t, h, s, i, rfl, rfl, rfl, rfl, T, lh, ls, li, two, f, h, rfl, rfl, F, hk h lh fun z => (h00 z).1, (fun _ => ⟨_, _, rfl, rfl, two, f, i, rfl, rfl, F, hk i li fun z => (h00 z).2, (fun _ => ⟨_, _, rfl, rfl, ?_⟩), fun z => nomatch z⟩), fun z => nomatch z⟩
  -- the goal stands there, and the size is too large
  have skip : ∀ (u : TS) (gN : Nat), tv h s i = (gN : Int) → (gN = 0 ∨ (gN = 1 ∧ two = true)) → ¬ ((h : Int) + 1 + (i : Int) ≤ (gN : Int)) → (two = true ∨ s ≠ 1) →
      tIfS (tOr (tB (tDNotIn (tVar 7) (tVar 2))) (tB (tLe (tVar 8) (tF 2 7 false)))) u tNext D (s11 t f g (some (.int (h : Int))) (some (.int (i : Int))) (some (.int (s : Int))) (some (.int (tv h s i))) (some (.int ((h : Int) + 1 + (i : Int)))) x9) H := fun u gN hg hkg hlt hs1 => by
    obtain ⟨v, qq, g1, g2, _⟩ := F.get hkg
    rw [hg]
    refine ⟨.int _, rfl, .ref f, rfl, f, some (.ref v), rfl, g1, _, rfl, .int _, rfl, two, f, gN, rfl, rfl, F, hkg, (fun _ => ⟨_, _, rfl, rfl, _, rfl, ?_⟩), fun z => nomatch z⟩
    show (if decide ((h : Int) + 1 + (i : Int) ≤ (gN : Int)) = true then _ else _)
    rw [decide_eq_false hlt]
    have e1 : (two || decide (s = 1)) = two := by
      rcases hs1 with e | e
      · rw [e]; rfl
      · rw [decide_eq_false e, Bool.or_false]
    have e2 : (cond (!two && decide (s = 1)) true g) = g := by
      rcases hs1 with e | e
      · rw [e]; rfl
      · rw [decide_eq_false e, Bool.and_false]; rfl
    have := nx (some (.int gN)) (some (.int ((h : Int) + 1 + (i : Int)))) x9 H (by rw [e1]; exact F) Kb.refl
    rw [e2] at this
    exact this
  by_cases h001 : h = 0 ∧ i = 0 ∧ s = 1
  · obtain ⟨rfl, rfl, rfl⟩ := h001
    -- the tuple that is made
    have mk : ∀ (u : TS) (D : Ends), (∀ y q r e H3, H3 y = some (.tup [.int 1, .ref q]) → H3 q = some (.tup [.ref r]) → H3 r = some (.tup [.int 1, .ref e]) → H3 e = some (.tup []) → FD two H3 f → Kb f H H3 → u D (s11 t f g (some (.int ((0 : Nat) : Int))) (some (.int ((0 : Nat) : Int))) (some (.int ((1 : Nat) : Int))) (some (.int (tv 0 1 0))) (some (.int (((0 : Nat) : Int) + 1 + ((0 : Nat) : Int)))) (some (.ref y))) H3) →
        tSeq (tAsg (tTup (tCons (tVar 8) (tCons (tOp (rCatA X.K) (tF 2 4 true) (tTup (tCons (tTup (tCons (tVar 6) (tCons (tF 2 5 true) tNil))) tNil))) tNil))) (gName 9)) u D (s11 t f g (some (.int ((0 : Nat) : Int))) (some (.int ((0 : Nat) : Int))) (some (.int ((1 : Nat) : Int))) (some (.int (tv 0 1 0))) (some (.int (((0 : Nat) : Int) + 1 + ((0 : Nat) : Int)))) x9) H := fun u D hQ => by
      refine ⟨.int 1, rfl, two, f, 0, rfl, rfl, F, .inl rfl, (fun z => nomatch z), fun _ q0 _ hq0 => ⟨.int 1, rfl, two, f, 0, rfl, rfl, F, .inl rfl, (fun z => nomatch z), fun _ q1 _ hq1 => ⟨le_sz (n := 2) (by decide), fun r nr => ⟨le_sz (n := 1) (by decide), fun q nq => ?_⟩⟩⟩⟩
      have e0 := hq0 rfl
      have e1 := hq1 rfl
      have s0' : upd (upd H r (.tup [.int 1, .ref q1])) q (.tup [.ref r]) q0 = some (.tup []) := by
        have a : upd H r (.tup [.int 1, .ref q1]) q0 = some (.tup []) := by rw [upd_ne (ne_of_none e0 nr)]; exact e0
        rw [upd_ne (ne_of_none a nq)]; exact a
      refine ⟨q0, q, [], [.ref r], rfl, rfl, SqT.of s0', SqT.of upd_same, le_sz (n := 1) (by decide), fun _ => ⟨le_sz (n := 2) (by decide), fun y ny => ?_⟩, fun z => absurd rfl z, fun z => absurd rfl z⟩
      have g1 : ∀ {b : Addr} {u : HO}, H b = some u → upd H r (.tup [.int 1, .ref q1]) b = some u := fun e => by rw [upd_ne (ne_of_none e nr)]; exact e
      have g2 : ∀ {b : Addr} {u : HO}, upd H r (.tup [.int 1, .ref q1]) b = some u → upd (upd H r (.tup [.int 1, .ref q1])) q (.tup [.ref r]) b = some u := fun e => by rw [upd_ne (ne_of_none e nq)]; exact e
      have g3 : ∀ {b : Addr} {u : HO}, upd (upd H r (.tup [.int 1, .ref q1])) q (.tup [.ref r]) b = some u → upd (upd (upd H r (.tup [.int 1, .ref q1])) q (.tup [.ref r])) y (.tup [.int 1, .ref q]) b = some u := fun e => by rw [upd_ne (ne_of_none e ny)]; exact e
      exact hQ y q r q1 _ upd_same (g3 upd_same) (g3 (g2 upd_same)) (g3 (g2 (g1 e1))) (((F.new nr).new nq).new ny) ((Kb.new nr).trans ((Kb.new nq).trans (Kb.new ny)))
    cases two with
    | true =>
      obtain ⟨v, qq, g1, g2, _⟩ := F.get (h := 1) (.inr ⟨rfl, rfl⟩)
      refine ⟨.int _, rfl, .ref f, rfl, f, some (.ref v), rfl, g1, _, rfl, .int _, rfl, true, f, 1, rfl, rfl, F, .inr ⟨rfl, rfl⟩, (fun _ => ⟨_, _, rfl, rfl, _, rfl, ?_⟩), fun z => nomatch z⟩
      show (if (true : Bool) = true then _ else _)
      rw [if_pos rfl]
      refine mk _ _ fun y q r e H3 a2 a3 a4 a5 F3 k3 => ?_
      obtain ⟨v', d1, d2⟩ := F3.deep (K := X.K)
      refine ⟨.int _, rfl, .ref f, rfl, f, some (.ref v'), rfl, d1, _, rfl, .ref y, rfl, .ref f, rfl, .int _, rfl, f, .ref v', rfl, d1, P1, P1, dp_1 a2 a3 a4 a5, d2, alike_11, (fun z => nomatch z), (by decide), _, rfl, ?_⟩
      show (if PySem.W.dataLt P1 P1 = true then _ else _)
      rw [lt_11]
      exact nx _ _ _ H3 F3 k3
    | false =>
      refine ⟨.int _, rfl, .ref f, rfl, f, none, rfl, F.no, _, rfl, ?_⟩
      show (if (true : Bool) = true then _ else _)
      rw [if_pos rfl]
      show (if (true : Bool) = true then _ else _)
      rw [if_pos rfl]
      refine mk _ _ fun y q r e H3 a2 a3 a4 a5 F3 k3 => ?_
      obtain ⟨H4, p4, F4, k4⟩ := F3.put a2 a3 a4 a5
      exact ⟨.int _, rfl, .ref f, rfl, f, none, rfl, F3.no, _, rfl, .ref y, rfl, .ref f, rfl, .int _, rfl, f, H4, rfl, p4, nx _ _ _ H4 F4 (k3.trans k4)⟩
  · by_cases h000 : h = 0 ∧ i = 0 ∧ s = 0
    · obtain ⟨rfl, rfl, rfl⟩ := h000
      exact skip _ 0 rfl (.inl rfl) (by decide) (.inr (by decide))
    · have ht : two = true := by
        cases two with
        | true => rfl
        | false => exfalso; have := h00 rfl; omega
      have hg : tv h s i = ((1 : Nat) : Int) := by
        unfold tv
        rw [if_neg (by omega)]; rfl
      exact skip _ 1 hg (.inr ⟨rfl, ht⟩) (by omega) (.inl ht)
end
end Nk
end
section
set_option Elab.async false
set_option linter.all false
set_option maxRecDepth 100000
set_option maxHeartbeats 1000000
/-! first_rows at the one input: the loops -/
namespace Nk
open PySem PySem.Spec PyProof.Rows L2
section
variable {w : World} {K : PySem.W.Frag} {mg : Str → Option Value} {base : Heap} {fa : Addr} {cdv : Value} {A : Around} {outer : List PySem.Env} {s0 : Shared} {H0 : Hp} {E : XK}
def st11 : TS := fun D σ H => ∃ (two g : Bool) (t f : Addr) (h i : Nat) (x6 x7 x8 x9 : Option V), σ = s11 t f g (some (.int (h : Int))) (some (.int (i : Int))) x6 x7 x8 x9 ∧ TabR H t ∧ FD two H f ∧ h < 2 ∧ i < 2 ∧ (two = false → h = 0 ∧ i = 0) ∧
  ∀ x6 x7 x8 x9 H', FD true H' f → Kb f H H' → D.nx (s11 t f (cond two g true) (some (.int (h : Int))) (some (.int (i : Int))) x6 x7 x8 x9) H'
theorem st_ps (hu : (X11 w K mg base fa cdv A outer s0 H0 E).A.units + 100 < cLine) (mr : mg "range" = none) : PSs (X11 w K mg base fa cdv A outer s0 H0 E) inner11 st11 := by
  let X := X11 w K mg base fa cdv A outer s0 H0 E
  refine PSs.imp (pss_one (ps_for (X := X) (passes_of rfl) rfl (pi_range1 (by show (defScope (topS d_11.at_)).names.lookup _ = _; kernel_rfl) mr (pa_cons (pv 1) pa_nil)) (pg_name (X := X) (i := 6) n11 rfl (.inl rfl)) (in_ps hu))) fun D σ H q => ?_
  obtain ⟨two, g, t, f, h, i, x6, x7, x8, x9, rfl, T, F, lh, li, h00, nx⟩ := q
  refine ⟨.int 2, rfl, 2, rfl, by decide, by decide, ?_⟩
  refine for_range (n := 2) (fun j σ H1 => ∃ x6 x7 x8 x9, σ = s11 t f (cond (!two && decide (j = 2)) true g) (some (.int (h : Int))) (some (.int (i : Int))) x6 x7 x8 x9 ∧ FD (two || decide (j = 2)) H1 f ∧ Kb f H H1) ⟨x6, x7, x8, x9, ?_, ?_, Kb.refl⟩ (fun j σ H1 hj p => ?_) (fun σ H1 p => ?_)
  · cases two <;> rfl
  · cases two <;> exact F
  · obtain ⟨x6, x7, x8, x9, rfl, F1, k1⟩ := p
    obtain ⟨ks, hf⟩ := F.dict
    have T1 := T.keep hf k1
    have jn : decide (j = 2) = false := decide_eq_false (by omega)
    rw [jn, Bool.or_false] at F1
    rw [jn, Bool.and_false]
    refine ⟨two, g, t, f, h, i, j, x7, x8, x9, ?_, T1, F1, lh, li, hj, h00, fun x7 x8 x9 H' F' k' => ⟨some (.int (j : Int)), x7, x8, x9, ?_, ?_, k1.trans k'⟩⟩
    · rw [Int.zero_add]; rfl
    · rcases two_cases hj with rfl | rfl <;> rfl
    · rcases two_cases hj with rfl | rfl <;> exact F'
  · obtain ⟨x6, x7, x8, x9, rfl, F1, k1⟩ := p
    have := nx x6 x7 x8 x9 H1 (by cases two <;> exact F1) k1
    cases two <;> exact this
def ksN (two : Bool) : List Nat := cond two [0, 1] [0]
theorem sorted_ks {two : Bool} {ys : List Int} (p : ys.Perm ((ksN two).map fun (n : Nat) => (n : Int))) (s : ys.Pairwise (· ≤ ·)) : ys = (ksN two).map fun (n : Nat) => (n : Int) := by
  refine List.Perm.eq_of_pairwise (le := fun a b : Int => a ≤ b) (fun a b _ _ h1 h2 => Int.le_antisymm h1 h2) s ?_ p
  cases two <;> decide
theorem FD.keys {two : Bool} {H : Hp} {f : Addr} (x : FD two H f) : ∃ kvs : List (Key × V), Rd H f (.dK kvs) ∧ kvs.map (·.1) = ((ksN two).map fun (n : Nat) => (n : Int)).map Sum.inl := by
  obtain ⟨z, e, _, _, h1, h2⟩ := x
  cases two with
  | false => exact ⟨_, .inl (h1 rfl), rfl⟩
  | true => obtain ⟨_, _, _, _, h, _⟩ := h2 rfl; exact ⟨_, .inl h, rfl⟩
theorem ks_get {two : Bool} {j : Nat} {x : V} (h : (((ksN two).map fun (n : Nat) => (n : Int)).map V.int)[j]? = some x) : x = .int (j : Int) ∧ j < 2 ∧ (two = false → j = 0) ∧ (two = true ∨ j < 1) := by
  cases two with
  | false =>
    match j, h with
    | 0, h => cases h; exact ⟨rfl, by omega, fun _ => rfl, .inr (by omega)⟩
    | n + 1, h => simp [ksN] at h
  | true =>
    match j, h with
    | 0, h => cases h; exact ⟨rfl, by omega, fun _ => rfl, .inl rfl⟩
    | 1, h => cases h; exact ⟨rfl, by omega, (fun z => nomatch z), .inl rfl⟩
    | n + 2, h => simp [ksN] at h
def inr11 : TS := fun D σ H => ∃ (two g : Bool) (t f : Addr) (h : Nat) (x5 x6 x7 x8 x9 : Option V), σ = s11 t f g (some (.int (h : Int))) x5 x6 x7 x8 x9 ∧ TabR H t ∧ FD two H f ∧ h < 2 ∧ (two = false → h = 0) ∧
  ∀ x5 x6 x7 x8 x9 H', FD true H' f → Kb f H H' → D.nx (s11 t f (cond two g true) (some (.int (h : Int))) x5 x6 x7 x8 x9) H'
theorem inr_ps (hu : (X11 w K mg base fa cdv A outer s0 H0 E).A.units + 100 < cLine) (mr : mg "range" = none) (ms : mg "sorted" = none) : PSs (X11 w K mg base fa cdv A outer s0 H0 E) here11 inr11 := by
  let X := X11 w K mg base fa cdv A outer s0 H0 E
  refine PSs.imp (pss_one (ps_for (X := X) (passes_of rfl) rfl (pi_list (pe_callB (X := X) (call_sortedDI rfl) (by show (defScope (topS d_11.at_)).names.lookup _ = _; kernel_rfl) ms (by decide +kernel) (pa_cons (pv 2) pa_nil))) (pg_name (X := X) (i := 5) n11 rfl (.inl rfl)) (st_ps hu mr))) fun D σ H q => ?_
  obtain ⟨two, g, t, f, h, x5, x6, x7, x8, x9, rfl, T, F, lh, h00, nx⟩ := q
  obtain ⟨kvs, hr, hk⟩ := F.keys
  refine ⟨.ref f, rfl, f, kvs, _, rfl, hr, hk, by cases two <;> decide, fun ys p hp hs np => ?_⟩
  rw [sorted_ks hp hs]
  refine ⟨p, rfl, ⟨_, SqL.of upd_same⟩, ?_⟩
  obtain ⟨ks, hf⟩ := F.dict
  have pf : p ≠ f := fun z => by rw [z, hf] at np; cases np
  refine for_list (xs := ((ksN two).map fun (n : Nat) => (n : Int)).map V.int) (fun j σ H1 => ∃ x5 x6 x7 x8 x9, σ = s11 t f (cond (two || decide (j = 0)) g true) (some (.int (h : Int))) x5 x6 x7 x8 x9 ∧ FD (two || !decide (j = 0)) H1 f ∧ Kb f (upd H p (.lst (((ksN two).map fun (n : Nat) => (n : Int)).map V.int))) H1) ⟨x5, x6, x7, x8, x9, ?_, ?_, Kb.refl⟩ (fun j σ H1 _ q => ?_) (fun j x σ H1 hx q => ?_) (fun σ H1 q => ?_)
  · cases two <;> rfl
  · have := F.new (o := .lst (((ksN two).map fun (n : Nat) => (n : Int)).map V.int)) np
    cases two <;> exact this
  · obtain ⟨_, _, _, _, _, _, _, k1⟩ := q
    exact SqL.of (k1 _ _ pf upd_same)
  · obtain ⟨x5, x6, x7, x8, x9, rfl, F1, k1⟩ := q
    obtain ⟨rfl, j2, jz, jt⟩ := ks_get hx
    have T1 := (T.keep hf (Kb.new np)).keep (show upd H p _ f = _ from by rw [upd_ne (Ne.symm pf)]; exact hf) k1
    refine ⟨two || !decide (j = 0), cond (two || decide (j = 0)) g true, t, f, h, j, x6, x7, x8, x9, rfl, T1, F1, lh, j2, fun z => ?_, fun x6 x7 x8 x9 H' F' k' => ⟨some (.int (j : Int)), x6, x7, x8, x9, ?_, ?_, k1.trans k'⟩⟩
    · cases two with
      | true => cases z
      | false => exact ⟨h00 rfl, jz rfl⟩
    · have e1 : decide (j + 1 = 0) = false := decide_eq_false (by omega)
      rw [e1, Bool.or_false]
      rcases jt with rfl | e
      · rfl
      · obtain rfl : j = 0 := by omega
        cases two <;> rfl
    · have e1 : decide (j + 1 = 0) = false := decide_eq_false (by omega)
      rw [e1, Bool.not_false, Bool.or_true]; exact F'
  · obtain ⟨x5, x6, x7, x8, x9, rfl, F1, k1⟩ := q
    have := nx x5 x6 x7 x8 x9 H1 (by cases two <;> exact F1) ((Kb.new np).trans k1)
    cases two <;> exact this
def our11 : TS := fun D σ H => ∃ (two g : Bool) (t f : Addr) (x4 x5 x6 x7 x8 x9 : Option V), σ = s11 t f g x4 x5 x6 x7 x8 x9 ∧ TabR H t ∧ FD two H f ∧
  ∀ x4 x5 x6 x7 x8 x9 H', FD true H' f → Kb f H H' → D.nx (s11 t f (!two) x4 x5 x6 x7 x8 x9) H'
theorem our_ps (hu : (X11 w K mg base fa cdv A outer s0 H0 E).A.units + 100 < cLine) (mr : mg "range" = none) (ms : mg "sorted" = none) : PSs (X11 w K mg base fa cdv A outer s0 H0 E) w11 our11 := by
  let X := X11 w K mg base fa cdv A outer s0 H0 E
  refine PSs.imp (pss_cons (ps_set (X := X) (i := 3) n11 rfl (.inl rfl) pe_bl rfl) (pss_one (ps_for (X := X) (passes_of rfl) rfl (pi_list (pe_callB (X := X) (call_sortedDI rfl) (by show (defScope (topS d_11.at_)).names.lookup _ = _; kernel_rfl) ms (by decide +kernel) (pa_cons (pv 2) pa_nil))) (pg_name (X := X) (i := 4) n11 rfl (.inl rfl)) (inr_ps hu mr ms)))) fun D σ H q => ?_
  obtain ⟨two, g, t, f, x4, x5, x6, x7, x8, x9, rfl, T, F, nx⟩ := q
  obtain ⟨kvs, hr, hk⟩ := F.keys
  refine ⟨.ref f, rfl, f, kvs, _, rfl, hr, hk, by cases two <;> decide, fun ys p hp hs np => ?_⟩
  rw [sorted_ks hp hs]
  refine ⟨p, rfl, ⟨_, SqL.of upd_same⟩, ?_⟩
  obtain ⟨ks, hf⟩ := F.dict
  have pf : p ≠ f := fun z => by rw [z, hf] at np; cases np
  refine for_list (xs := ((ksN two).map fun (n : Nat) => (n : Int)).map V.int) (fun j σ H1 => ∃ x4 x5 x6 x7 x8 x9, σ = s11 t f (!(two || decide (j = 0))) x4 x5 x6 x7 x8 x9 ∧ FD (two || !decide (j = 0)) H1 f ∧ Kb f (upd H p (.lst (((ksN two).map fun (n : Nat) => (n : Int)).map V.int))) H1) ⟨x4, x5, x6, x7, x8, x9, ?_, ?_, Kb.refl⟩ (fun j σ H1 _ q => ?_) (fun j x σ H1 hx q => ?_) (fun σ H1 q => ?_)
  · cases two <;> rfl
  · have := F.new (o := .lst (((ksN two).map fun (n : Nat) => (n : Int)).map V.int)) np
    cases two <;> exact this
  · obtain ⟨_, _, _, _, _, _, _, _, k1⟩ := q
    exact SqL.of (k1 _ _ pf upd_same)
  · obtain ⟨x4, x5, x6, x7, x8, x9, rfl, F1, k1⟩ := q
    obtain ⟨rfl, j2, jz, jt⟩ := ks_get hx
    have T1 := (T.keep hf (Kb.new np)).keep (show upd H p _ f = _ from by rw [upd_ne (Ne.symm pf)]; exact hf) k1
    refine ⟨two || !decide (j = 0), !(two || decide (j = 0)), t, f, j, x5, x6, x7, x8, x9, rfl, T1, F1, j2, fun z => ?_, fun x5 x6 x7 x8 x9 H' F' k' => ⟨some (.int (j : Int)), x5, x6, x7, x8, x9, ?_, ?_, k1.trans k'⟩⟩
    · cases two with
      | true => cases z
      | false => exact jz rfl
    · have e1 : decide (j + 1 = 0) = false := decide_eq_false (by omega)
      rw [e1, Bool.or_false]
      rcases jt with rfl | e
      · rfl
      · obtain rfl : j = 0 := by omega
        cases two <;> rfl
    · have e1 : decide (j + 1 = 0) = false := decide_eq_false (by omega)
      rw [e1, Bool.not_false, Bool.or_true]; exact F'
  · obtain ⟨x4, x5, x6, x7, x8, x9, rfl, F1, k1⟩ := q
    have := nx x4 x5 x6 x7 x8 x9 H1 (by cases two <;> exact F1) ((Kb.new np).trans k1)
    cases two <;> exact this
/-- what first_rows gives -/
def spFR : Sp := fun vs H Q _ => ∃ t : Addr, vs = [.ref t, .int 2] ∧ TabR H t ∧ ∀ f H', H f = none → FD true H' f → Kb f H H' → Q (.ref f) H'
theorem fr_body (hu : (X11 w K mg base fa cdv A outer s0 H0 E).A.units + 100 < cLine) (mr : mg "range" = none) (ms : mg "sorted" = none) {vs : List V} {Q : VK} {H : Hp} (h : spFR vs H Q E) :
    ∃ t, PSs (X11 w K mg base fa cdv A outer s0 H0 E) (defBody (topS d_11.at_)) t ∧ t { nx := fun _ H' => Q .non H', rt := Q } (L2.start d_11.N vs) H := by
  let X := X11 w K mg base fa cdv A outer s0 H0 E
  obtain ⟨t, rfl, T, hQ⟩ := h
  refine ⟨_, pss_cons (ps_set (X := X) (i := 2) n11 rfl (.inl rfl) (pe_disp (X := X) (pps_cons pe_int (pe_tup (pa_cons pe_int (pa_cons (pe_tup pa_nil) pa_nil))) pps_nil) rfl rfl (fun z => nomatch z) (by decide)) rfl)
    (pss_cons (ps_set (X := X) (i := 3) n11 rfl (.inl rfl) pe_bl rfl)
    (pss_cons (ps_while (X := X) (passes_of rfl) (pt_val (pv (X := X) 3)) (our_ps hu mr ms))
    (pss_one (ps_ret (pv (X := X) 2))))), ?_⟩
  refine fun f nf => ⟨le_sz (n := 0) (by decide), fun e ne => ⟨le_sz (n := 2) (by decide), fun z nz => ⟨?_, [(.inl 0, .ref z)], rfl, (by show 1 ≤ 15; omega), ?_⟩⟩⟩
  · have a : upd (upd H f (.dK [])) e (.tup []) f = some (.dK []) := by rw [upd_ne (ne_of_none (upd_same : upd H f (.dK []) f = _) ne)]; exact upd_same
    rw [upd_ne (ne_of_none a nz)]; exact a
  · have fe : e ≠ f := fun q => by rw [q, upd_same] at ne; cases ne
    have g1 : upd (upd H f (.dK [])) e (.tup []) f = some (.dK []) := by rw [upd_ne (Ne.symm fe)]; exact upd_same
    have fz : z ≠ f := fun q => by rw [q, g1] at nz; cases nz
    have he : upd (upd H f (.dK [])) e (.tup []) e = some (.tup []) := upd_same
    have ez : e ≠ z := ne_of_none he nz
    have k1 : Kb f H (upd (upd (upd (upd H f (.dK [])) e (.tup [])) z (.tup [.int 0, .ref e])) f (.dK [(.inl 0, .ref z)])) := ((Kb.at.trans (Kb.new ne)).trans (Kb.new nz)).trans Kb.at
    have F1 : FD false (upd (upd (upd (upd H f (.dK [])) e (.tup [])) z (.tup [.int 0, .ref e])) f (.dK [(.inl 0, .ref z)])) f := by
      refine ⟨z, e, ?_, ?_, fun _ => upd_same, fun q => nomatch q⟩
      · rw [upd_ne fz]; exact upd_same
      · rw [upd_ne fe, upd_ne ez]; exact he
    have T1 : TabR (upd (upd (upd (upd H f (.dK [])) e (.tup [])) z (.tup [.int 0, .ref e])) f (.dK [(.inl 0, .ref z)])) t := by
      obtain ⟨r, a, h1, h2, h3⟩ := T
      have ne : ∀ {b : Addr} {u : HO}, H b = some u → b ≠ f := fun e => ne_of_none e nf
      exact ⟨r, a, k1 _ _ (ne h1) h1, fun h hh => k1 _ _ (ne (h2 h hh)) (h2 h hh), fun h s hh hs => k1 _ _ (ne (h3 h s hh hs)) (h3 h s hh hs)⟩
    show tWhile _ _ _ _ (upd (upd (upd (upd H f (.dK [])) e (.tup [])) z (.tup [.int 0, .ref e])) f (.dK [(.inl 0, .ref z)]))
    generalize hG : (upd (upd (upd (upd H f (.dK [])) e (.tup [])) z (.tup [.int 0, .ref e])) f (.dK [(.inl 0, .ref z)])) = G at k1 F1 T1
    refine ⟨fun m σ H1 => ∃ (two g : Bool) (x4 x5 x6 x7 x8 x9 : Option V), σ = s11 t f g x4 x5 x6 x7 x8 x9 ∧ FD two H1 f ∧ TabR H1 t ∧ Kb f H H1 ∧ (two = false → g = true) ∧ m = cond two (cond g 1 0) 2, ⟨2, false, true, none, none, none, none, none, none, rfl, F1, T1, k1, fun _ => rfl, rfl⟩, ?_⟩
    rintro m σ H1 ⟨two, g, x4, x5, x6, x7, x8, x9, rfl, F2, T2, k2, hg, rfl⟩
    refine ⟨.bl g, rfl, g, rfl, ?_⟩
    cases g with
    | false =>
      have ht : two = true := by
        cases two with
        | true => rfl
        | false => exact hg rfl
      subst ht
      exact ⟨.ref f, rfl, hQ f H1 nf F2 k2⟩
    | true =>
      refine ⟨fun σ' H' => ∃ x4 x5 x6 x7 x8 x9, σ' = s11 t f (!two) x4 x5 x6 x7 x8 x9 ∧ FD true H' f ∧ TabR H' t ∧ Kb f H H', fun σ' H' ⟨x4, x5, x6, x7, x8, x9, e, F3, T3, k3⟩ => ⟨cond true (cond (!two) 1 0) 2, by cases two <;> decide, true, !two, x4, x5, x6, x7, x8, x9, e, F3, T3, k3, (fun z => nomatch z), rfl⟩, ?_⟩
      obtain ⟨ks, hf⟩ := F2.dict
      exact ⟨two, true, t, f, x4, x5, x6, x7, x8, x9, rfl, T2, F2, fun x4 x5 x6 x7 x8 x9 H' F' k' => ⟨x4, x5, x6, x7, x8, x9, rfl, F', T2.keep hf k', k2.trans k'⟩⟩
end
end Nk
end
section
set_option Elab.async false
set_option linter.all false
set_option maxRecDepth 100000
set_option maxHeartbeats 1000000
/-! what readings evaluate to, told by a predicate; comprehensions over any walk -/
namespace Nk
open PySem PySem.Spec PyProof.Rows L2 Evl
def EvP (te : TE) (σ : L2.St) (H : Hp) (P : V → Hp → Prop) : Prop := ∀ H1, Ex H H1 → ∀ Q : VK, (∀ v H2, Ex H1 H2 → P v H2 → Q v H2) → te σ H1 Q
theorem EvP.of {te : TE} {σ : L2.St} {H : Hp} {v : V} (h : Ev te σ H v) : EvP te σ H fun u _ => u = v := fun H1 e Q q => h H1 e Q fun H2 e2 => q v H2 e2 rfl
theorem EvP.imp {te : TE} {σ : L2.St} {H : Hp} {P P' : V → Hp → Prop} (h : EvP te σ H P) (i : ∀ v H', Ex H H' → P v H' → P' v H') : EvP te σ H P' := fun H1 e Q q => h H1 e Q fun v H2 e2 p => q v H2 e2 (i v H2 (e.trans e2) p)
theorem EvP.mono {te : TE} {σ : L2.St} {H H' : Hp} {P : V → Hp → Prop} (e : Ex H H') (h : EvP te σ H P) : EvP te σ H' P := fun H1 a Q q => h H1 (e.trans a) Q q
structure JOk (J : L2.It) (n : Nat) (H : Hp) (I : Nat → V → Hp → Prop) : Prop where
  go : ∀ i H', i < n → Ex H H' → J.go i H'
  stop : ∀ H', Ex H H' → J.stop n H'
  yld : ∀ i x H' H'', i < n → Ex H H' → J.yld i H' x H'' → Ex H' H'' ∧ I i x H''
def EvI (wi : TI) (σ : L2.St) (H : Hp) (n : Nat) (I : Nat → V → Hp → Prop) : Prop := ∀ H1, Ex H H1 → ∀ R, (∀ J H2, Ex H1 H2 → JOk J n H2 I → R J H2) → wi σ H1 R
/-- what is told of the list so far stays while H grows and lists change -/
structure Stb (S : List V → Hp → Prop) : Prop where
  e : ∀ ys H H', Ex H H' → S ys H → S ys H'
  l : ∀ ys H D acc acc', H D = some (.lst acc) → S ys H → S ys (upd H D (.lst acc'))
section
variable {wi : TI} {g : TG} {tt : TT} {te : TE} {vs : List Nat} {σ : L2.St} {H : Hp}
theorem ep_lc {n : Nat} {I : Nat → V → Hp → Prop} (S : Nat → List V → Hp → Prop) (f : Nat → Bool) (hn : n < 40000) (hS : ∀ i, Stb (S i)) (s0 : ∀ H, S 0 [] H) (hw : EvI wi σ H n I)
    (hg : ∀ i x H', i < n → Ex H H' → I i x H' → ∀ Q : L2.St → Hp → Prop, (∀ σ2 H2, Ex H' H2 → wipe σ2 vs = wipe σ vs → EvT tt σ2 H2 (f i) → (f i = true → EvP te σ2 H2 fun y H3 => ∀ ys, S i ys H3 → S (i + 1) (ys ++ [y]) H3) → Q σ2 H2) → g x (wipe σ vs) H' Q)
    (hf : ∀ i ys H, i < n → f i = false → S i ys H → S (i + 1) ys H) :
    EvP (tLc wi g tt te vs) σ H fun v H' => ∃ p ys, v = .ref p ∧ H' p = some (.lst ys) ∧ S n ys H' := by
  intro H0 e0 Q q
  refine hw H0 e0 _ fun J H1 e1 jok D hD => ?_
  refine ⟨fun i m H' => m = n - i ∧ i ≤ n ∧ Ex H1 H' ∧ ∃ ys, H' D = some (.lst ys) ∧ ys.length ≤ i ∧ S i ys H', ⟨n, by simp, Nat.zero_le _, Ex.new hD, [], upd_same, Nat.le_refl _, s0 _⟩, ?_⟩
  rintro i m H2 ⟨rfl, hi, e2, ys, hy, hl, s2⟩
  by_cases hlt : i < n
  · refine .inr ⟨jok.go i H2 hlt e2, fun H' => ∃ ys, Ex H1 H' ∧ H' D = some (.lst ys) ∧ ys.length ≤ i + 1 ∧ S (i + 1) ys H', fun H' ⟨ys, a, b, c, d⟩ => ⟨n - (i + 1), by omega, rfl, hlt, a, ys, b, c, d⟩, fun x H3 hx => ?_⟩
    obtain ⟨e3, ix⟩ := jok.yld i x H2 H3 hlt e2 hx
    refine hg i x H3 hlt (((e0.trans e1).trans e2).trans e3) ix _ fun σ2 H4 e4 w2 ht hp => ⟨w2, ht H4 (Ex.refl _) _ fun H5 e5 => ?_⟩
    cases hfi : f i with
    | true =>
      refine hp hfi H5 e5 _ fun y H6 e6 p6 => ⟨ys, e6 _ _ (e5 _ _ (e4 _ _ (e3 _ _ hy))), Nat.lt_of_le_of_lt hl (by rw [sizeLine_eq]; omega), ys ++ [y], Ex.mut ((((e2.trans e3).trans e4).trans e5).trans e6) hD, upd_same, by rw [List.length_append]; show ys.length + 1 ≤ _; omega, ?_⟩
      exact (hS (i + 1)).l _ _ D _ _ (e6 _ _ (e5 _ _ (e4 _ _ (e3 _ _ hy)))) (p6 ys ((hS i).e _ _ _ (((e3.trans e4).trans e5).trans e6) s2))
    | false =>
      exact ⟨ys, ((e2.trans e3).trans e4).trans e5, e5 _ _ (e4 _ _ (e3 _ _ hy)), by omega, hf i ys _ hlt hfi ((hS i).e _ _ _ ((e3.trans e4).trans e5) s2)⟩
  · have e : i = n := by omega
    subst e
    exact .inl ⟨jok.stop H2 e2, q _ H2 (e1.trans e2) ⟨D, ys, rfl, hy, s2⟩⟩
/-! walks -/
theorem sql_ex {K : PySem.W.Frag} {H H' : Hp} {a : Addr} {xs : List V} (e : Ex H H') (h : SqL K H a xs) : SqL K H' a xs := ex_l e h
theorem ei_list {K : PySem.W.Frag} {tl : TE} {xs : List V} (h : EvP tl σ H fun v H' => ∃ a, v = .ref a ∧ H' a = some (.lst xs)) : EvI (iList K tl) σ H xs.length fun i x _ => xs[i]? = some x := by
  intro H1 e R q
  refine h H1 e _ fun v H2 e2 ⟨a, ev, ha⟩ => ⟨a, ev, ⟨xs, sq_of ha⟩, q _ H2 e2 ⟨fun i H' hi e' => ⟨xs, xs[i], sq_of (e' _ _ ha), by simp [hi]⟩, fun H' e' => ⟨xs, sq_of (e' _ _ ha), Nat.le_refl _⟩, fun i x H' H'' hi e' hy => ?_⟩⟩
  obtain ⟨rfl, hy⟩ := hy
  exact ⟨Ex.refl _, hy xs (sq_of (e' _ _ ha))⟩
theorem ei_enum {K : PySem.W.Frag} {ta : TE} {xs : List V} (h : EvP ta σ H fun v H' => ∃ a, v = .ref a ∧ H' a = some (.lst xs)) : EvI (iEnum K (tCons ta tNil)) σ H xs.length fun i x H' => ∃ T y, x = .ref T ∧ H' T = some (.tup [.int (i : Nat), y]) ∧ xs[i]? = some y := by
  intro H1 e R q
  refine h H1 e _ fun v H2 e2 ⟨a, ev, ha⟩ => ⟨a, xs, by rw [ev], sq_of ha, q _ H2 e2 ⟨fun i H' hi e' => ⟨xs, xs[i], sq_of (e' _ _ ha), by simp [hi]⟩, fun H' e' => ⟨xs, sq_of (e' _ _ ha), Nat.le_refl _⟩, fun i x H' H'' hi e' hy => ?_⟩⟩
  obtain ⟨T, y, rfl, nT, rfl, hy⟩ := hy
  exact ⟨Ex.new nT, T, y, rfl, upd_same, hy xs (sq_of (e' _ _ ha))⟩
theorem ei_range {ta : TE} {n : Nat} (hn : n < 40000) (h : Ev ta σ H (.int (n : Int))) : EvI (iRng1 (tCons ta tNil)) σ H n fun i x _ => x = .int (i : Int) := by
  intro H1 e R q
  refine h H1 e _ fun H2 e2 => ⟨(n : Int), rfl, by omega, by omega, q _ H2 e2 ?_⟩
  have en : (n : Int).toNat = n := by omega
  rw [en]
  refine ⟨fun i H' hi _ => hi, fun H' _ => (by first | exact Nat.le_refl _ | exact Nat.lt_irrefl _ | exact rfl), fun i x H' H'' hi e' hy => ?_⟩
  obtain ⟨rfl, rfl⟩ := hy
  exact ⟨Ex.refl _, by rw [Int.zero_add]⟩
end
end Nk
end
section
set_option Elab.async false
set_option linter.all false
set_option maxRecDepth 100000
set_option maxHeartbeats 1000000
/-! classes_of at the one input -/
namespace Nk
open PySem PySem.Spec PyProof.Rows L2 Evl
theorem et_yes {σ : L2.St} {H : Hp} : EvT tYes σ H true := fun H1 _ Q q => q H1 (Ex.refl H1)
section
variable {wi : TI} {g : TG} {tk tv : TE} {vs : List Nat} {σ : L2.St} {H : Hp}
theorem ed_dc {n : Nat} {I : Nat → V → Hp → Prop} (kvf : Nat → List (Key × V)) (kk : Nat → Key) (zv : Nat → V) (h0 : kvf 0 = []) (hs : ∀ i, i < n → kvf (i + 1) = putK (kvf i) (kk i) (zv i)) (hl : ∀ i, i < n → (kvf i).length ≤ 1000) (hw : EvI wi σ H n I)
    (hg : ∀ i x H', i < n → Ex H H' → I i x H' → ∀ Q : L2.St → Hp → Prop, (∀ σ2 H2, Ex H' H2 → wipe σ2 vs = wipe σ vs → Ev tk σ2 H2 (kV (kk i)) → Ev tv σ2 H2 (zv i) → Q σ2 H2) → g x (wipe σ vs) H' Q) :
    EvP (tDc wi g tYes tk tv vs) σ H fun v H' => ∃ p, v = .ref p ∧ H' p = some (.dK (kvf n)) := by
  intro H0 e0 Q q
  refine hw H0 e0 _ fun J H1 e1 jok D hD => ?_
  refine ⟨fun i m H' => m = n - i ∧ i ≤ n ∧ Ex H1 H' ∧ H' D = some (.dK (kvf i)), ⟨n, by simp, Nat.zero_le _, Ex.new hD, by rw [h0]; exact upd_same⟩, ?_⟩
  rintro i m H2 ⟨rfl, hi, e2, hy⟩
  by_cases hlt : i < n
  · refine .inr ⟨jok.go i H2 hlt e2, fun H' => Ex H1 H' ∧ H' D = some (.dK (kvf (i + 1))), fun H' ⟨a, b⟩ => ⟨n - (i + 1), by omega, rfl, hlt, a, b⟩, fun x H3 hx => ?_⟩
    obtain ⟨e3, ix⟩ := jok.yld i x H2 H3 hlt e2 hx
    refine hg i x H3 hlt (((e0.trans e1).trans e2).trans e3) ix _ fun σ2 H4 e4 w2 hk hv => ⟨w2, ?_⟩
    show tk σ2 H4 _
    refine hk H4 (Ex.refl _) _ fun H5 e5 => hv H5 e5 _ fun H6 e6 => ⟨kvf i, kk i, rfl, e6 _ _ (e5 _ _ (e4 _ _ (e3 _ _ hy))), ?_, Ex.mut ((((e2.trans e3).trans e4).trans e5).trans e6) hD, ?_⟩
    · have := hl i hlt; rw [sizeLine_eq]; omega
    · rw [hs i hlt]; exact upd_same
  · have e : i = n := by omega
    subst e
    exact .inl ⟨jok.stop H2 e2, q _ H2 (e1.trans e2) ⟨D, rfl, hy⟩⟩
end
theorem tab_ex {H H' : Hp} {t : Addr} (x : TabR H t) (e : Ex H H') : TabR H' t := by
  obtain ⟨r, a, h1, h2, h3⟩ := x
  exact ⟨r, a, e _ _ h1, fun h hh => e _ _ (h2 h hh), fun h s hh hs => e _ _ (h3 h s hh hs)⟩
theorem ev_t3 {σ : L2.St} {H : Hp} {kt kh ks ki h s i : Nat} {t : Addr} (T : TabR H t) (a1 : σ[kt]? = some (some (.ref t))) (a2 : σ[kh]? = some (some (.int (h : Int)))) (a3 : σ[ks]? = some (some (.int (s : Int)))) (a4 : σ[ki]? = some (some (.int (i : Int)))) (l1 : h < 2) (l2 : s < 2) (l3 : i < 2) :
    Ev (tT3 kt kh ks ki) σ H (.int (tv h s i)) := fun H1 e Q q => ⟨t, h, s, i, a1, a2, a3, a4, tab_ex T e, l1, l2, l3, q H1 (Ex.refl _)⟩
def CD (H : Hp) (f : Addr) : Prop := H f = some (.dK [(.inl 0, .int 1), (.inl 1, .int 0)])
theorem cd_get {H : Hp} {f : Addr} {n : Int} (x : CD H f) (hn : n = 0 ∨ n = 1) : DGet H f (.int n) (some (.int (1 - n))) := by
  rcases hn with rfl | rfl
  · exact .inl ⟨_, .inl 0, .inl x, rfl, rfl⟩
  · exact .inl ⟨_, .inl 1, .inl x, rfl, rfl⟩
theorem ev_cd {σ : L2.St} {H : Hp} {te : TE} {k : Nat} {f : Addr} {n : Int} (h : Ev te σ H (.int n)) (x : CD H f) (a : σ[k]? = some (some (.ref f))) (hn : n = 0 ∨ n = 1) : Ev (tDGet (tVar k) te) σ H (.int (1 - n)) := fun H1 e Q q =>
  ⟨.ref f, a, h H1 e _ fun H2 e2 => ⟨f, _, rfl, cd_get (show CD H2 f from e2 _ _ (e _ _ x)) hn, q H2 e2⟩⟩
theorem tv01 (h s i : Nat) : tv h s i = 0 ∨ tv h s i = 1 := by
  unfold tv; split
  · exact .inl rfl
  · exact .inr rfl
theorem el_cat {σ : L2.St} {H : Hp} {tb : TE} {k : Nat} {l : Addr} {xs ys : List V} (a : σ[k]? = some (some (.ref l))) (hl : H l = some (.lst xs)) (h : EvL tb σ H ys) (hz : xs.length + ys.length ≤ 1000) : EvL (tOp rCat (tVar k) tb) σ H (xs ++ ys) := fun H1 e Q q =>
  ⟨.ref l, a, h H1 e _ fun p H2 np e2 hp => ⟨l, p, xs, ys, rfl, rfl, e2 _ _ (e _ _ hl), hp, le_sz hz, fun p' np' => q p' _ (fresh_back e2 np') (e2.trans (Ex.new np')) upd_same⟩⟩
theorem hl_get {i : Nat} {x : V} (h : ([V.int 0, V.int 1] : List V)[i]? = some x) : x = .int (i : Int) ∧ i < 2 := by
  match i, h with
  | 0, h => cases h; exact ⟨rfl, by omega⟩
  | 1, h => cases h; exact ⟨rfl, by omega⟩
  | n + 2, h => simp at h
def w12 : List Stmt := at1 (defBody (topS d_12.at_)) 2
def f12 : List Stmt := at1 w12 2
def st12 : List Stmt := at1 f12 1
abbrev X12 (w : World) (K : PySem.W.Frag) (mg : Str → Option Value) (base : Heap) (fa : Addr) (cdv : Value) (A : Around) (outer : List PySem.Env) (s : Shared) (H : Hp) (E : XK) : Cx := cxOf (L2N.CX NkH.PP w) NkH.PP w K mg base d_12.N d_12.name (defScope (topS d_12.at_)) fa cdv A outer s H E
abbrev s12 (t gd hl : Addr) (x4 x5 x6 x7 x8 x9 x10 x11 x12 x13 : Option V) : L2.St := [some (.ref t), some (.int 2), some (.ref gd), some (.ref hl), x4, x5, x6, x7, x8, x9, x10, x11, x12, x13]
theorem n12 : d_12.N.Nodup := by decide +kernel
section
variable {w : World} {K : PySem.W.Frag} {mg : Str → Option Value} {base : Heap} {fa : Addr} {cdv : Value} {A : Around} {outer : List PySem.Env} {s0 : Shared} {H0 : Hp} {E : XK}
theorem blk12 {scope : Scope} {own : List (Str × Nat)} (h : BlkOk d_12.N (defScope (topS d_12.at_)) scope own) : BlkOk (X12 w K mg base fa cdv A outer s0 H0 E).N (X12 w K mg base fa cdv A outer s0 H0 E).env.scope scope own := h
/-- one stand's two parts of a row -/
def prtI (h s : Nat) : List Int := [1 - tv h s 0, 1 - tv h s 1, 1 - tv 0 s h, 1 - tv 1 s h]
def prt (h s : Nat) : List V := (prtI h s).map V.int
def rowJ (h : Nat) : Nat → List Int
  | 0 => [1 - (h : Int)]
  | j + 1 => rowJ h j ++ prtI h j
def stR12 : TS := fun D σ H => ∃ (t gd hl fd rw : Addr) (h s : Nat) (xs : List V) (x6 x7 x10 x11 x12 x13 : Option V), σ = s12 t gd hl (some (.ref fd)) (some (.int (h : Int))) x6 x7 (some (.ref rw)) (some (.int (s : Int))) x10 x11 x12 x13 ∧ TabR H t ∧ CD H fd ∧ H hl = some (.lst [.int 0, .int 1]) ∧ H rw = some (.lst xs) ∧ xs.length ≤ 500 ∧ h < 2 ∧ s < 2 ∧
  ∀ rw' x10 H', Ex H H' → H' rw' = some (.lst (xs ++ prt h s)) → D.nx (s12 t gd hl (some (.ref fd)) (some (.int (h : Int))) x6 x7 (some (.ref rw')) (some (.int (s : Int))) x10 x11 x12 x13) H'
theorem st12_ps (hu : (X12 w K mg base fa cdv A outer s0 H0 E).A.units + 100 < cLine) : PSs (X12 w K mg base fa cdv A outer s0 H0 E) st12 stR12 := by
  let X := X12 w K mg base fa cdv A outer s0 H0 E
  have hu1 : X.A.units + 1 < cLine := by have : X.A.units + 100 < cLine := hu; omega
  refine PSs.imp (pss_cons (ps_set (X := X) (i := 8) n12 rfl (by first | exact .inl rfl | exact .inr rfl) (pe_op op_cat (pv 8) (pe_lc (X := X) (own := [("there", 10)]) rfl n12 (pi_list (pv (X := X) 3)) (blk12 ⟨rfl, by decide +kernel, by decide +kernel, by decide +kernel, by decide +kernel⟩) (fun _ _ _ _ _ => pg_name (i := 10) n12 rfl (.inl rfl)) (fun _ _ _ _ _ => pts_nil) (fun _ _ _ _ _ => pe_dget hu1 (pv 4) (pe_t3 (pv 0) (pv 5) (pv 9) (pv 10)) (fun _ _ => rfl)))) rfl)
    (pss_one (ps_set (X := X) (i := 8) n12 rfl (by first | exact .inl rfl | exact .inr rfl) (pe_op op_cat (pv 8) (pe_lc (X := X) (own := [("there", 10)]) rfl n12 (pi_list (pv (X := X) 3)) (blk12 ⟨rfl, by decide +kernel, by decide +kernel, by decide +kernel, by decide +kernel⟩) (fun _ _ _ _ _ => pg_name (i := 10) n12 rfl (.inl rfl)) (fun _ _ _ _ _ => pts_nil) (fun _ _ _ _ _ => pe_dget hu1 (pv 4) (pe_t3 (pv 0) (pv 10) (pv 9) (pv 5)) (fun _ _ => rfl)))) rfl))) fun D σ H q => ?_
  obtain ⟨t, gd, hl, fd, rw', h, s, xs, x6, x7, x10, x11, x12, x13, rfl, T, C, hhl, hrw, hxs, lh, ls, nx⟩ := q
  refine q_asgL (el_cat (l := rw') (xs := xs) (ys := [.int (1 - tv h s 0), .int (1 - tv h s 1)]) rfl hrw (el_lcL (fun _ => true) (fun i => .int (1 - tv h s i)) (ev_var rfl) (sq_of hhl) (by show 2 ≤ 40000; omega) (fun _ => rfl) (fun _ _ _ _ _ => et_yes) (fun i x H1 e1 hx _ => ?_)) (by show xs.length + 2 ≤ 1000; omega)) fun p H1 np e1 hp => ?_
  · obtain ⟨rfl, hi⟩ := hl_get hx
    exact ev_cd (ev_t3 (tab_ex T e1) rfl rfl rfl rfl lh ls hi) (e1 _ _ C) rfl (tv01 h s i)
  · refine s_asgL (el_cat (l := p) (xs := xs ++ [.int (1 - tv h s 0), .int (1 - tv h s 1)]) (ys := [.int (1 - tv 0 s h), .int (1 - tv 1 s h)]) rfl hp (el_lcL (fun _ => true) (fun i => .int (1 - tv i s h)) (ev_var rfl) (sq_of (e1 _ _ hhl)) (by show 2 ≤ 40000; omega) (fun _ => rfl) (fun _ _ _ _ _ => et_yes) (fun i x H2 e2 hx _ => ?_)) (by rw [List.length_append]; show xs.length + 2 + 2 ≤ 1000; omega)) fun p2 H2 np2 e2 hp2 => ?_
    · obtain ⟨rfl, hi⟩ := hl_get hx
      exact ev_cd (ev_t3 (tab_ex T (e1.trans e2)) rfl rfl rfl rfl hi ls lh) ((e1.trans e2) _ _ C) rfl (tv01 i s h)
    · rw [List.append_assoc] at hp2
      exact nx p2 _ H2 (e1.trans e2) hp2
def fR12 : TS := fun D σ H => ∃ (t gd hl fd rws : Addr) (h : Nat) (ks : List (Key × V)) (x6 x8 x9 x10 x11 x12 x13 : Option V), σ = s12 t gd hl (some (.ref fd)) (some (.int (h : Int))) x6 (some (.ref rws)) x8 x9 x10 x11 x12 x13 ∧ TabR H t ∧ CD H fd ∧ H hl = some (.lst [.int 0, .int 1]) ∧ H rws = some (.dK ks) ∧ ks.length ≤ 500 ∧ h < 2 ∧
  ∀ p x8 x9 x10 H1, Ex H H1 → H1 rws = some (.dK ks) → H1 p = some (.tup ((rowJ h 2).map V.int)) → D.nx (s12 t gd hl (some (.ref fd)) (some (.int (h : Int))) x6 (some (.ref rws)) x8 x9 x10 x11 x12 x13) (upd H1 rws (.dK (putK ks (.inl (h : Int)) (.ref p))))
theorem nat01 {h : Nat} (l : h < 2) : (h : Int) = 0 ∨ (h : Int) = 1 := by omega
theorem f12_ps (hu : (X12 w K mg base fa cdv A outer s0 H0 E).A.units + 100 < cLine) (mr : mg "range" = none) (mt : mg "tuple" = none) : PSs (X12 w K mg base fa cdv A outer s0 H0 E) f12 fR12 := by
  let X := X12 w K mg base fa cdv A outer s0 H0 E
  have hu1 : X.A.units + 1 < cLine := by have : X.A.units + 100 < cLine := hu; omega
  refine PSs.imp (pss_cons (ps_set (X := X) (i := 8) n12 rfl (by first | exact .inl rfl | exact .inr rfl) (pe_lst (pa_cons (pe_dget hu1 (pv 4) (pv 5) (fun _ _ => rfl)) pa_nil)) rfl)
    (pss_cons (ps_for (X := X) (passes_of rfl) rfl (pi_range1 (by show (defScope (topS d_12.at_)).names.lookup _ = _; kernel_rfl) mr (pa_cons (pv 1) pa_nil)) (pg_name (X := X) (i := 9) n12 rfl (by first | exact .inl rfl | exact .inr rfl)) (st12_ps hu))
    (pss_one (ps_dput hu1 (pv 7) (pv 5) (pe_callTy (X := X) call_tuple_of (by show (defScope (topS d_12.at_)).names.lookup _ = _; kernel_rfl) mt (by decide +kernel) (pa_cons (pv 8) pa_nil)) rfl)))) fun D σ H q => ?_
  obtain ⟨t, gd, hl, fd, rws, h, ks, x6, x8, x9, x10, x11, x12, x13, rfl, T, C, hhl, hrws, hks, lh, nx⟩ := q
  refine q_asgL (el_lst (vs := [.int (1 - (h : Int))]) (ea_cons (ev_cd (ev_var rfl) C rfl (nat01 lh)) ea_nil) (by show 1 ≤ 100000; omega)) fun p H1 np e1 hp => ?_
  refine ⟨.int 2, rfl, 2, rfl, by decide, by decide, ?_⟩
  refine for_range (n := 2) (fun j σ H2 => ∃ rw x9 x10, σ = s12 t gd hl (some (.ref fd)) (some (.int (h : Int))) x6 (some (.ref rws)) (some (.ref rw)) x9 x10 x11 x12 x13 ∧ H2 rw = some (.lst ((rowJ h j).map V.int)) ∧ Ex H H2) ⟨p, x9, x10, rfl, hp, e1⟩ (fun j σ H2 hj q => ?_) (fun σ H2 q => ?_)
  · obtain ⟨rw, x9, x10, rfl, hrw, e2⟩ := q
    have hlen : ((rowJ h j).map V.int).length ≤ 500 := by
      rcases two_cases hj with rfl | rfl
      · show 1 ≤ 500; omega
      · show 5 ≤ 500; omega
    refine ⟨t, gd, hl, fd, rw, h, j, _, x6, some (.ref rws), x10, x11, x12, x13, ?_, tab_ex T e2, e2 _ _ C, e2 _ _ hhl, hrw, hlen, lh, hj, fun rw' x10 H3 e3 hrw' => ⟨rw', some (.int (j : Int)), x10, rfl, ?_, e2.trans e3⟩⟩
    · rw [Int.zero_add]; rfl
    · show H3 rw' = some (.lst ((rowJ h j ++ prtI h j).map V.int))
      rw [List.map_append]; exact hrw'
  · obtain ⟨rw, x9, x10, rfl, hrw, e2⟩ := q
    refine ⟨.ref rw, rfl, rw, _, rfl, .inl ⟨sq_of hrw, fun l nl => ⟨.ref rws, rfl, .int (h : Int), rfl, rws, _, rfl, DPut.k (k := .inl (h : Int)) (show upd H2 l _ rws = some (.dK ks) from ?_) ?_, nx l _ _ _ _ (e2.trans (Ex.new nl)) ?_ upd_same⟩⟩⟩
    · exact Ex.new nl _ _ (e2 _ _ hrws)
    · rw [sizeLine_eq]; omega
    · exact Ex.new nl _ _ (e2 _ _ hrws)
end
end Nk
end
section
set_option Elab.async false
set_option linter.all false
set_option maxRecDepth 100000
set_option maxHeartbeats 1000000
/-! classes_of at the one input: the while's body -/
namespace Nk
open PySem PySem.Spec PyProof.Rows L2 Evl
def rowI (h : Nat) : List Int := rowJ h 2
theorem row0 : rowI 0 = [1, 1, 0, 1, 0, 0, 0, 0, 0] := by decide +kernel
theorem row1 : rowI 1 = [0, 0, 0, 0, 0, 0, 0, 0, 0] := by decide +kernel
theorem map_kV (l : List Int) : (l.map Sum.inl).map kV = l.map V.int := by
  rw [List.map_map]; rfl
section
variable {σ : L2.St} {H : Hp} {te : TE} {K : PySem.W.Frag}
theorem s_asgP {D : Ends} {i : Nat} {P : V → Hp → Prop} (h : EvP te σ H P) (k : ∀ v H1, Ex H H1 → P v H1 → D.nx (σ.set i (some v)) H1) : tAsg te (gName i) D σ H := h H (Ex.refl H) _ fun v H1 e p => k v H1 e p
theorem q_asgP {tz : TS} {D : Ends} {i : Nat} {P : V → Hp → Prop} (h : EvP te σ H P) (k : ∀ v H1, Ex H H1 → P v H1 → tz D (σ.set i (some v)) H1) : tSeq (tAsg te (gName i)) tz D σ H := h H (Ex.refl H) _ fun v H1 e p => k v H1 e p
theorem ev_lenset {ns : List Int} (h : EvL te σ H (ns.map V.int)) (h64 : ns.length < 64) (hn : ns.Nodup) : Ev (tLenSetI K te) σ H (.int ns.length) := fun H1 e Q q => h H1 e _ fun p H2 _ e2 hp => ⟨p, ns, rfl, sq_of hp, h64, hn, q H2 e2⟩
/-- the rows so far -/
def RD (j : Nat) (H : Hp) (rws : Addr) : Prop := ∃ r0 r1, H rws = some (.dK ([((.inl 0 : Key), V.ref r0), (.inl 1, .ref r1)].take j)) ∧ (1 ≤ j → H r0 = some (.tup ((rowI 0).map V.int))) ∧ (2 ≤ j → H r1 = some (.tup ((rowI 1).map V.int)))
theorem RD.put {j : Nat} {H H1 : Hp} {rws p : Addr} (x : RD j H rws) (hj : j < 2) (e : Ex H H1) (hp : H1 p = some (.tup ((rowI j).map V.int))) : ∃ ks, H rws = some (.dK ks) ∧ ks.length ≤ 500 ∧ RD (j + 1) (upd H1 rws (.dK (putK ks (.inl (j : Int)) (.ref p)))) rws := by
  obtain ⟨r0, r1, h1, h2, h3⟩ := x
  have ne : ∀ {b : Addr} {xs : List V}, H1 b = some (.tup xs) → b ≠ rws := fun a z => by rw [z, e _ _ h1] at a; cases a
  rcases two_cases hj with rfl | rfl
  · exact ⟨_, h1, by show 0 ≤ 500; omega, p, p, upd_same, fun _ => by rw [upd_ne (ne hp)]; exact hp, fun z => by omega⟩
  · have h2 := e _ _ (h2 (Nat.le_refl _))
    exact ⟨_, h1, by show 1 ≤ 500; omega, r0, p, upd_same, fun _ => by rw [upd_ne (ne h2)]; exact h2, fun _ => by rw [upd_ne (ne hp)]; exact hp⟩
theorem rd_get {H : Hp} {rws r0 r1 : Addr} {i : Nat} (h : H rws = some (.dK [((.inl 0 : Key), V.ref r0), (.inl 1, .ref r1)])) (hi : i < 2) : DGet H rws (.int (i : Int)) (some (.ref (if i = 0 then r0 else r1))) := by
  rcases two_cases hi with rfl | rfl
  · exact .inl ⟨_, .inl 0, .inl h, rfl, rfl⟩
  · exact .inl ⟨_, .inl 1, .inl h, rfl, rfl⟩
theorem ev_rd {k kx : Nat} {rws r0 r1 : Addr} {i : Nat} (h : H rws = some (.dK [((.inl 0 : Key), V.ref r0), (.inl 1, .ref r1)])) (hi : i < 2) (a : σ[k]? = some (some (.ref rws))) (b : σ[kx]? = some (some (.int (i : Int)))) : Ev (tDGet (tVar k) (tVar kx)) σ H (.ref (if i = 0 then r0 else r1)) := fun H1 e Q q =>
  ⟨.ref rws, a, .int i, b, rws, _, rfl, rd_get (e _ _ h) hi, q H1 (Ex.refl _)⟩
/-- sorted(set(the rows)) -/
theorem sorted_rows {r0 r1 : Addr} {L L' : List (Addr × List Int)} (h1 : ∀ p ∈ L, p ∈ [(r0, rowI 0), (r1, rowI 1)]) (h2 : ∀ p ∈ [(r0, rowI 0), (r1, rowI 1)], p.2 ∈ L.map (·.2)) (pm : L'.Perm L) (nd : (L'.map (·.2)).Nodup) (pw : L'.Pairwise fun q r => TS.code 64 q.2 ≤ TS.code 64 r.2) :
    L' = [(r1, rowI 1), (r0, rowI 0)] := by
  have mem : ∀ p ∈ L', p = (r0, rowI 0) ∨ p = (r1, rowI 1) := fun p hp => by
    have := h1 p (pm.mem_iff.mp hp)
    simpa using this
  have n01 : rowI 0 ≠ rowI 1 := by decide +kernel
  have lt : ¬ TS.code 64 (rowI 0) ≤ TS.code 64 (rowI 1) := by decide +kernel
  have in0 : (r0, rowI 0) ∈ L' := by
    obtain ⟨p, hp, e⟩ := List.mem_map.mp (h2 (r0, rowI 0) List.mem_cons_self)
    have hp' := pm.mem_iff.mpr hp
    rcases mem p hp' with z | z
    · rw [← z]; exact hp'
    · rw [z] at e; exact absurd e.symm n01
  have in1 : (r1, rowI 1) ∈ L' := by
    obtain ⟨p, hp, e⟩ := List.mem_map.mp (h2 (r1, rowI 1) (List.mem_cons_of_mem _ List.mem_cons_self))
    have hp' := pm.mem_iff.mpr hp
    rcases mem p hp' with z | z
    · rw [z] at e; exact absurd e n01
    · rw [← z]; exact hp'
  have le2 : L'.length ≤ 2 := by
    match L', mem, nd with
    | [], _, _ => simp
    | [_], _, _ => simp
    | [_, _], _, _ => simp
    | a :: b :: c :: r, mem, nd =>
      exfalso
      simp only [List.map_cons, List.nodup_cons, List.mem_cons, not_or] at nd
      obtain ⟨⟨n1, n2, _⟩, ⟨n3, _⟩, _⟩ := nd
      rcases mem a (by simp) with rfl | rfl <;> rcases mem b (by simp) with rfl | rfl <;> rcases mem c (by simp) with rfl | rfl <;> first | exact n1 rfl | exact n2 rfl | exact n3 rfl
  match L', in0, in1, le2, pw, nd with
  | [], h, _, _, _, _ => cases h
  | [a], h, h', _, _, _ =>
    have e1 := List.mem_singleton.mp h
    have e2 := List.mem_singleton.mp h'
    rw [← e1] at e2
    exact absurd (congrArg Prod.snd e2).symm n01
  | [a, b], h, h', _, pw, nd =>
    rcases List.mem_cons.mp h with rfl | h
    · rcases List.mem_cons.mp h' with e | h'
      · exact absurd (congrArg Prod.snd e).symm n01
      · obtain rfl := List.mem_singleton.mp h'
        exact absurd ((List.pairwise_cons.mp pw).1 _ List.mem_cons_self) lt
    · obtain rfl := List.mem_singleton.mp h
      rcases List.mem_cons.mp h' with rfl | h'
      · rfl
      · exact absurd (congrArg Prod.snd (List.mem_singleton.mp h')).symm n01
  | _ :: _ :: _ :: _, _, _, h, _, _ => simp at h
end
end Nk
end
section
set_option Elab.async false
set_option linter.all false
set_option maxRecDepth 100000
set_option maxHeartbeats 1000000
/-! classes_of at the one input: the while's body -/
namespace Nk
open PySem PySem.Spec PyProof.Rows L2 Evl
section
variable {w : World} {K : PySem.W.Frag} {mg : Str → Option Value} {base : Heap} {fa : Addr} {cdv : Value} {A : Around} {outer : List PySem.Env} {s0 : Shared} {H0 : Hp} {E : XK}
/-- the pairs so far -/
def SO (r0 r1 : Addr) (i : Nat) (ys : List V) (H : Hp) : Prop := ys.length = i ∧ ∀ (k : Nat) (y : V), ys[k]? = some y → ∃ T, y = V.ref T ∧ H T = some (.tup [.ref (if k = 0 then r1 else r0), .int (k : Int)])
theorem SO.stb (r0 r1 : Addr) (i : Nat) : Stb (SO r0 r1 i) where
  e := fun ys H H' e h => ⟨h.1, fun k y hy => by
    obtain ⟨T, a, b⟩ := h.2 k y hy
    exact ⟨T, a, e _ _ b⟩⟩
  l := fun ys H D acc acc' hD h => ⟨h.1, fun k y hy => by
    obtain ⟨T, a, b⟩ := h.2 k y hy
    refine ⟨T, a, ?_⟩
    have : T ≠ D := fun z => by rw [z, hD] at b; cases b
    rw [upd_ne this]; exact b⟩
theorem SO.snoc {r0 r1 : Addr} {i : Nat} {ys : List V} {H : Hp} {p : Addr} (h : SO r0 r1 i ys H) (hp : H p = some (.tup [.ref (if i = 0 then r1 else r0), .int (i : Int)])) : SO r0 r1 (i + 1) (ys ++ [.ref p]) H := by
  refine ⟨by rw [List.length_append, h.1]; rfl, fun k y hy => ?_⟩
  by_cases hk : k < ys.length
  · rw [List.getElem?_append_left hk] at hy
    exact h.2 k y hy
  · rw [List.getElem?_append_right (by omega)] at hy
    have e : k = i := by
      have := (List.getElem?_eq_some_iff.mp hy).1
      have hl := h.1
      simp at this
      omega
    subst e
    rw [show k - ys.length = 0 by have := h.1; omega] at hy
    cases hy
    exact ⟨p, rfl, hp⟩
theorem merge_rows : mergeT [] [((rowI 1).map Sum.inl, V.int 0), ((rowI 0).map Sum.inl, V.int 1)] = [((rowI 1).map Sum.inl, V.int 0), ((rowI 0).map Sum.inl, V.int 1)] := by kernel_rfl
def kvF : Nat → List (Key × V)
  | 0 => []
  | i + 1 => putK (kvF i) (.inl (i : Int)) (.int (1 - (i : Int)))
theorem get_row0 : some (V.int (1 - ((0 : Nat) : Int))) = valV (κ := List Key) [((rowI 1).map Sum.inl, V.int 0), ((rowI 0).map Sum.inl, V.int 1)] ((rowI 0).map Sum.inl) := by kernel_rfl
theorem get_row1 : some (V.int (1 - ((1 : Nat) : Int))) = valV (κ := List Key) [((rowI 1).map Sum.inl, V.int 0), ((rowI 0).map Sum.inl, V.int 1)] ((rowI 1).map Sum.inl) := by kernel_rfl
theorem row_len : (rowI 0).length = 9 ∧ (rowI 1).length = 9 := by decide +kernel
theorem row_bd : TS.Bd 64 (rowI 0) ∧ TS.Bd 64 (rowI 1) := by
  rw [row0, row1]
  exact ⟨(by decide : ∀ m ∈ ([1, 1, 0, 1, 0, 0, 0, 0, 0] : List Int), 0 ≤ m ∧ m < 64), (by decide : ∀ m ∈ ([0, 0, 0, 0, 0, 0, 0, 0, 0] : List Int), 0 ≤ m ∧ m < 64)⟩
theorem ev_cb1 {r : List V → Hp → VK → Prop} {ta : TE} {σ : L2.St} {H : Hp} {Q : VK} : tCB r (tCons ta tNil) σ H Q ↔ ta σ H fun x H1 => r [x] H1 Q := Iff.rfl
structure Fre (mg : Str → Option Value) : Prop where
  range : mg "range" = none
  tuple : mg "tuple" = none
  sorted : mg "sorted" = none
  set : mg "set" = none
  dict : mg "dict" = none
  len : mg "len" = none
  enum : mg "enumerate" = none
  int : mg "int" = none
def wR12 : TS := fun D σ H => ∃ (t gd hl fd : Addr) (x5 x6 x7 x8 x9 x10 x11 x12 x13 : Option V), σ = s12 t gd hl (some (.ref fd)) x5 x6 x7 x8 x9 x10 x11 x12 x13 ∧ TabR H t ∧ CD H fd ∧ H hl = some (.lst [.int 0, .int 1]) ∧
  ∀ fd' x5 x7 x8 x9 x10 x11 x12 x13 H', Ex H H' → CD H' fd' → D.nx (s12 t gd hl (some (.ref fd')) x5 (some (.int 2)) x7 x8 x9 x10 x11 x12 x13) H'
theorem w12_ps (hu : (X12 w K mg base fa cdv A outer s0 H0 E).A.units + 100 < cLine) (m : Fre mg) : PSs (X12 w K mg base fa cdv A outer s0 H0 E) w12 wR12 := by
  let X := X12 w K mg base fa cdv A outer s0 H0 E
  have hu1 : X.A.units + 1 < cLine := by have : X.A.units + 100 < cLine := hu; omega
  have hu3 : X.A.units + 3 < cLine := by have : X.A.units + 100 < cLine := hu; omega
  have hu64 : X.A.units + 64 < cLine := by have : X.A.units + 100 < cLine := hu; omega
  refine PSs.imp (pss_cons (ps_set (X := X) (i := 6) n12 rfl (by first | exact .inl rfl | exact .inr rfl) (pe_lenSetI (X := X) rfl (by show (defScope (topS d_12.at_)).names.lookup _ = _; kernel_rfl) m.len (by show (defScope (topS d_12.at_)).names.lookup _ = _; kernel_rfl) m.set (pe_lc (X := X) (own := [("here", 5)]) rfl n12 (pi_list (pv (X := X) 3)) (blk12 ⟨rfl, by decide +kernel, by decide +kernel, by decide +kernel, by decide +kernel⟩) (fun _ _ _ _ _ => pg_name (i := 5) n12 rfl (.inl rfl)) (fun _ _ _ _ _ => pts_nil) (fun _ _ _ _ _ => pe_dget hu1 (pv 4) (pv 5) (fun _ _ => rfl)))) rfl)
    (pss_cons (ps_set (X := X) (i := 7) n12 rfl (by first | exact .inl rfl | exact .inr rfl) pe_dnewK rfl)
    (pss_cons (ps_for (X := X) (passes_of rfl) rfl (pi_list (pv (X := X) 3)) (pg_name (X := X) (i := 5) n12 rfl (by first | exact .inl rfl | exact .inr rfl)) (f12_ps hu m.range m.tuple))
    (pss_cons (ps_set (X := X) (i := 11) n12 rfl (by first | exact .inl rfl | exact .inr rfl) (pe_callB (X := X) (cr_sortedT rfl) (by show (defScope (topS d_12.at_)).names.lookup _ = _; kernel_rfl) m.sorted (by decide +kernel) (pa_cons (pe_callTy (X := X) (cr_setOfT rfl hu64) (by show (defScope (topS d_12.at_)).names.lookup _ = _; kernel_rfl) m.set (by decide +kernel) (pa_cons (pe_lc (X := X) (own := [("here", 5)]) rfl n12 (pi_list (pv (X := X) 3)) (blk12 ⟨rfl, by decide +kernel, by decide +kernel, by decide +kernel, by decide +kernel⟩) (fun _ _ _ _ _ => pg_name (i := 5) n12 rfl (.inl rfl)) (fun _ _ _ _ _ => pts_nil) (fun _ _ _ _ _ => pe_dget hu1 (pv 7) (pv 5) (fun _ _ => rfl))) pa_nil)) pa_nil)) rfl)
    (pss_cons (ps_set (X := X) (i := 12) n12 rfl (by first | exact .inl rfl | exact .inr rfl) (pe_callTy (X := X) (cr_dictT rfl hu3) (by show (defScope (topS d_12.at_)).names.lookup _ = _; kernel_rfl) m.dict (by decide +kernel) (pa_cons (pe_lc (X := X) (own := [("at", 13), ("row", 8)]) rfl n12 (pi_enum (X := X) (by show (defScope (topS d_12.at_)).names.lookup _ = _; kernel_rfl) m.enum (pa_cons (pv (X := X) 11) pa_nil)) (blk12 ⟨rfl, by decide +kernel, by decide +kernel, by decide +kernel, by decide +kernel⟩) (fun s H C cl fp => show PG (Cx.blk X s H _ (compEnvC _ cl C X.env) fp) _ (gTup X.K 2 (gCons (gName 13) (gCons (gName 8) gNil))) from pg_tup (n := 2) (X := Cx.blk X s H _ (compEnvC _ cl C X.env) fp) rfl (pgs_cons (pg_name (X := Cx.blk X s H _ (compEnvC _ cl C X.env) fp) (i := 13) n12 rfl (.inl rfl) (.inr rfl)) (pgs_cons (pg_name (X := Cx.blk X s H _ (compEnvC _ cl C X.env) fp) (i := 8) n12 rfl (.inl rfl) (.inr rfl)) pgs_nil))) (fun _ _ _ _ _ => pts_nil) (fun _ _ _ _ _ => pe_tup (pa_cons (pv 8) (pa_cons (pv 13) pa_nil)))) pa_nil)) rfl)
    (pss_one (ps_set (X := X) (i := 4) n12 rfl (by first | exact .inl rfl | exact .inr rfl) (pe_dc (X := X) (own := [("here", 5)]) rfl n12 (pi_list (pv (X := X) 3)) (blk12 ⟨rfl, by decide +kernel, by decide +kernel, by decide +kernel, by decide +kernel⟩) (fun _ _ _ _ _ => pg_name (i := 5) n12 rfl (.inl rfl)) (fun _ _ _ _ _ => pts_nil) (fun _ _ _ _ _ => pv 5) (fun _ _ _ _ _ => pe_dget hu1 (pv 12) (pe_dget hu1 (pv 7) (pv 5) (fun _ _ => rfl)) (fun _ _ => rfl))) rfl))))))) fun D σ H q => ?_
  obtain ⟨t, gd, hl, fd, x5, x6, x7, x8, x9, x10, x11, x12, x13, rfl, T, C, hhl, nx⟩ := q
  refine q_asg (ev_lenset (ns := [1, 0]) (el_lcL (fun _ => true) (fun i => .int (1 - (i : Int))) (ev_var rfl) (sq_of hhl) (by show 2 ≤ 40000; omega) (fun _ => rfl) (fun _ _ _ _ _ => et_yes) (fun i x H1 e1 hx _ => ?_)) (by decide) (by decide)) fun H1 e1 => ?_
  · obtain ⟨rfl, hi⟩ := hl_get hx
    exact ev_cd (ev_var rfl) (e1 _ _ C) rfl (nat01 hi)
  · refine fun rws nr => ?_
    have C1 : CD H1 fd := e1 _ _ C
    have hhl1 := e1 _ _ hhl
    have T1 := tab_ex T e1
    refine ⟨.ref hl, rfl, hl, rfl, ⟨_, sq_of (Ex.new nr _ _ hhl1)⟩, ?_⟩
    refine for_list (xs := [.int 0, .int 1]) (fun j σ H2 => ∃ x5 x8 x9 x10, σ = s12 t gd hl (some (.ref fd)) x5 (some (.int 2)) (some (.ref rws)) x8 x9 x10 x11 x12 x13 ∧ RD j H2 rws ∧ Ex H1 H2) ⟨x5, x8, x9, x10, rfl, ⟨0, 0, upd_same, fun z => by omega, fun z => by omega⟩, Ex.new nr⟩ (fun j σ H2 _ q => ?_) (fun j x σ H2 hx q => ?_) (fun σ H2 q => ?_)
    · obtain ⟨_, _, _, _, _, _, e2⟩ := q
      exact sq_of (e2 _ _ hhl1)
    · obtain ⟨x5, x8, x9, x10, rfl, R, e2⟩ := q
      obtain ⟨rfl, hj⟩ := hl_get hx
      obtain ⟨r0, r1, hks, _, _⟩ := id R
      refine ⟨t, gd, hl, fd, rws, j, _, some (.int 2), x8, x9, x10, x11, x12, x13, rfl, tab_ex T1 e2, e2 _ _ C1, e2 _ _ hhl1, hks, ?_, hj, fun p x8 x9 x10 H3 e3 hk3 hp => ⟨some (.int (j : Int)), x8, x9, x10, rfl, ?_, Ex.mut (e2.trans e3) nr⟩⟩
      · rw [List.length_take]; show min j 2 ≤ 500; omega
      · obtain ⟨ks, a, _, b⟩ := R.put hj e3 hp
        rw [hks] at a
        cases a
        exact b
    · obtain ⟨x5, x8, x9, x10, rfl, ⟨r0, r1, hks, h0, h1⟩, e2⟩ := q
      have hks : H2 rws = some (.dK [((.inl 0 : Key), V.ref r0), (.inl 1, .ref r1)]) := hks
      have h0 := h0 (show 1 ≤ 2 from by omega)
      have h1 := h1 (show 2 ≤ 2 from Nat.le_refl _)
      have hhl2 := e2 _ _ hhl1
      have lcE : EvL (tLc (iList X.K (tVar 3)) (gName 5) tYes (tDGet (tVar 7) (tVar 5)) [5]) (s12 t gd hl (some (.ref fd)) x5 (some (.int 2)) (some (.ref rws)) x8 x9 x10 x11 x12 x13) H2 [.ref r0, .ref r1] :=
        el_lcL (xs := [.int 0, .int 1]) (fun _ => true) (fun i => .ref (if i = 0 then r0 else r1)) (ev_var rfl) (sq_of hhl2) (by show 2 ≤ 40000; omega) (fun _ => rfl) (fun _ _ _ _ _ => et_yes) (fun i x H1 e1 hx _ => by
          obtain ⟨rfl, hi⟩ := hl_get hx
          exact ev_rd (k := 7) (kx := 5) (e1 _ _ hks) hi rfl rfl)
      dsimp only
      refine q_asgP (P := fun v H' => ∃ o, v = .ref o ∧ H' o = some (.lst [.ref r1, .ref r0])) (fun H3 e3 Q q => ?_) fun v H3 e3 ⟨o, ev, ho⟩ => ?_
      · refine ev_cb1.mpr (ev_cb1.mpr (lcE H3 e3 _ fun l H4 nl e4 hl4 => ?_))
        have g0 := e4 _ _ (e3 _ _ h0)
        have g1 := e4 _ _ (e3 _ _ h1)
        have sq : ∀ p ∈ [(r0, rowI 0), (r1, rowI 1)], SqT K H4 p.1 (p.2.map V.int) := fun p hp => by
          rcases List.mem_cons.mp hp with rfl | hp
          · exact SqT.of g0
          · obtain rfl := List.mem_singleton.mp hp
            exact SqT.of g1
        refine ⟨l, [(r0, rowI 0), (r1, rowI 1)], rfl, sq_of hl4, sq, by show 2 < 64; omega, fun a L na hL1 hL2 => ?_⟩
        refine ⟨a, L, 9, 64, rfl, upd_same, fun p hp => ex_t (Ex.new na) (sq p (hL1 p hp)), by omega, fun p hp => ?_, fun L' p pm nd _ pw np => ?_⟩
        · rcases List.mem_cons.mp (hL1 p hp) with rfl | hp
          · exact ⟨row_len.1, row_bd.1⟩
          · obtain rfl := List.mem_singleton.mp hp
            exact ⟨row_len.2, row_bd.2⟩
        · rw [sorted_rows hL1 hL2 pm nd pw]
          exact q _ _ ((e4.trans (Ex.new na)).trans (Ex.new np)) ⟨p, rfl, upd_same⟩
      · subst ev
        have epl : EvP (tLc (iEnum X.K (tCons (tVar 11) tNil)) (gTup X.K 2 (gCons (gName 13) (gCons (gName 8) gNil))) tYes (tTup (tCons (tVar 8) (tCons (tVar 13) tNil))) [13, 8]) (s12 t gd hl (some (.ref fd)) x5 (some (.int 2)) (some (.ref rws)) x8 x9 x10 (some (.ref o)) x12 x13) H3 (fun v H' => ∃ p ys, v = .ref p ∧ H' p = some (.lst ys) ∧ SO r0 r1 2 ys H') :=
          ep_lc (n := 2) (SO r0 r1) (fun _ => true) (by omega) (SO.stb r0 r1) (fun H => ⟨rfl, fun k y h => by simp at h⟩) (ei_enum (xs := [.ref r1, .ref r0]) (fun H1 e1 Q q => ⟨.ref o, rfl, q _ H1 (Ex.refl _) ⟨o, rfl, e1 _ _ ho⟩⟩))
            (fun i x H' hi e' hI Q k => by
              obtain ⟨T, y, rfl, hT, hy⟩ := hI
              refine ⟨T, _, rfl, SqT.of hT, rfl, ?_⟩
              have hyv : y = .ref (if i = 0 then r1 else r0) := by
                rcases two_cases hi with rfl | rfl
                · exact (Option.some.inj hy).symm
                · exact (Option.some.inj hy).symm
              refine ⟨_, _, rfl, _, _, rfl, rfl, ?_⟩
              refine k _ H' (Ex.refl _) rfl et_yes fun _ => fun H4 e4 Q4 q4 => (eu_tup (vs := [y, .int (i : Int)]) (ea_cons (ev_var rfl) (ea_cons (ev_var rfl) ea_nil)) (by show 2 ≤ 100000; omega)) H4 e4 _ fun p H5 _ e5 hp => q4 _ H5 e5 fun ys hs => SO.snoc hs (by rw [hyv] at hp; exact hp))
            (fun i ys H hi hf => nomatch hf)
        refine q_asgP (P := fun v H' => ∃ nb, v = .ref nb ∧ H' nb = some (.dT [((rowI 1).map Sum.inl, V.int 0), ((rowI 0).map Sum.inl, V.int 1)])) (fun H4 e4 Q q => ?_) fun v H4 e4 ⟨nb, ev, hnb⟩ => ?_
        · refine ev_cb1.mpr (epl H4 e4 _ fun v H5 e5 ⟨l, ys, ev, hl, hS⟩ => ?_)
          subst ev
          match ys, hS with
          | [], hS => exact absurd hS.1 (by simp)
          | [_], hS => exact absurd hS.1 (by simp)
          | _ :: _ :: _ :: _, hS => exact absurd hS.1 (by simp)
          | [y0, y1], hS =>
            obtain ⟨T0, rfl, hT0⟩ := hS.2 0 y0 rfl
            obtain ⟨T1, rfl, hT1⟩ := hS.2 1 y1 rfl
            have g0 : H5 r0 = some (.tup (((rowI 0).map Sum.inl).map kV)) := by rw [map_kV]; exact e5 _ _ (e4 _ _ (e3 _ _ h0))
            have g1 : H5 r1 = some (.tup (((rowI 1).map Sum.inl).map kV)) := by rw [map_kV]; exact e5 _ _ (e4 _ _ (e3 _ _ h1))
            refine ⟨l, [T0, T1], [((rowI 1).map Sum.inl, V.int 0), ((rowI 0).map Sum.inl, V.int 1)], rfl, sq_of hl, .cons ⟨r1, SqT.of hT0, g1⟩ (.cons ⟨r0, SqT.of hT1, g0⟩ .nil), fun p np => ?_⟩
            rw [merge_rows]
            exact q _ _ (e5.trans (Ex.new np)) ⟨p, rfl, upd_same⟩
        · subst ev
          have E14 : Ex H1 H4 := (e2.trans e3).trans e4
          have hks4 := e4 _ _ (e3 _ _ hks)
          have g0 : H4 r0 = some (.tup (((rowI 0).map Sum.inl).map kV)) := by rw [map_kV]; exact e4 _ _ (e3 _ _ h0)
          have g1 : H4 r1 = some (.tup (((rowI 1).map Sum.inl).map kV)) := by rw [map_kV]; exact e4 _ _ (e3 _ _ h1)
          have dc : EvP (tDc (iList X.K (tVar 3)) (gName 5) tYes (tVar 5) (tDGet (tVar 12) (tDGet (tVar 7) (tVar 5))) [5]) (s12 t gd hl (some (.ref fd)) x5 (some (.int 2)) (some (.ref rws)) x8 x9 x10 (some (.ref o)) (some (.ref nb)) x13) H4 (fun v H' => ∃ p, v = .ref p ∧ H' p = some (.dK (kvF 2))) :=
            ed_dc (n := 2) kvF (fun i => .inl (i : Int)) (fun i => .int (1 - (i : Int))) rfl (fun i hi => by rcases two_cases hi with rfl | rfl <;> rfl) (fun i hi => by rcases two_cases hi with rfl | rfl <;> (show _ ≤ 1000; decide)) (ei_list (xs := [.int 0, .int 1]) (fun H5 e5 Q q => ⟨.ref hl, rfl, q _ H5 (Ex.refl _) ⟨hl, rfl, e5 _ _ (E14 _ _ hhl1)⟩⟩))
              (fun i x H' hi e' hx Q k => by
                obtain ⟨rfl, _⟩ := hl_get hx
                refine k _ H' (Ex.refl _) rfl (ev_var rfl) fun H6 e6 Q6 q6 => ⟨.ref nb, rfl, .ref rws, rfl, .int (i : Int), rfl, rws, _, rfl, rd_get (e6 _ _ (e' _ _ hks4)) hi, nb, .int (1 - (i : Int)), rfl, ?_, q6 H6 (Ex.refl _)⟩
                rcases two_cases hi with rfl | rfl
                · exact .inr ⟨_, _, r0, .inl (e6 _ _ (e' _ _ hnb)), rfl, e6 _ _ (e' _ _ g0), get_row0⟩
                · exact .inr ⟨_, _, r1, .inl (e6 _ _ (e' _ _ hnb)), rfl, e6 _ _ (e' _ _ g1), get_row1⟩)
          refine s_asgP dc fun v H5 e5 ⟨p, ev, hp⟩ => ?_
          subst ev
          exact nx p x5 (some (.ref rws)) x8 x9 x10 (some (.ref o)) (some (.ref nb)) x13 H5 ((e1.trans E14).trans e5) hp
end
end Nk
end
section
set_option Elab.async false
set_option linter.all false
set_option maxRecDepth 100000
set_option maxHeartbeats 1000000
/-! classes_of at the one input -/
namespace Nk
open PySem PySem.Spec PyProof.Rows L2 Evl
section
variable {w : World} {K : PySem.W.Frag} {mg : Str → Option Value} {base : Heap} {fa : Addr} {cdv : Value} {A : Around} {outer : List PySem.Env} {s0 : Shared} {H0 : Hp} {E : XK}
theorem ne_read {ta tb : TE} {σ : L2.St} {H : Hp} {Q : Bool → Hp → Prop} : tB (tNeI ta tb) σ H Q ↔ ta σ H fun x H1 => tb σ H1 fun y H2 => ∃ i j, x = .int i ∧ y = .int j ∧ ∃ c, (V.bl (!decide (i = j))) = .bl c ∧ Q c H2 := Iff.rfl
/-- what classes_of gives -/
def spCL : Sp := fun vs H Q _ => ∃ t gd hl : Addr, vs = [.ref t, .int 2, .ref gd, .ref hl] ∧ TabR H t ∧ H gd = some (.tup [.int 0]) ∧ H hl = some (.lst [.int 0, .int 1]) ∧ ∀ f H', Ex H H' → CD H' f → Q (.ref f) H'
theorem cl_body (hu : (X12 w K mg base fa cdv A outer s0 H0 E).A.units + 100 < cLine) (m : Fre mg) {vs : List V} {Q : VK} {H : Hp} (h : spCL vs H Q E) :
    ∃ t, PSs (X12 w K mg base fa cdv A outer s0 H0 E) (defBody (topS d_12.at_)) t ∧ t { nx := fun _ H' => Q .non H', rt := Q } (L2.start d_12.N vs) H := by
  let X := X12 w K mg base fa cdv A outer s0 H0 E
  have hu1 : X.A.units + 1 < cLine := by have : X.A.units + 100 < cLine := hu; omega
  obtain ⟨t, gd, hl, rfl, T, hgd, hhl, hQ⟩ := h
  refine ⟨_, pss_cons (ps_set (X := X) (i := 4) n12 rfl (by first | exact .inl rfl | exact .inr rfl) (pe_dc (X := X) (own := [("here", 5)]) rfl n12 (pi_list (pv (X := X) 3)) (blk12 ⟨rfl, by decide +kernel, by decide +kernel, by decide +kernel, by decide +kernel⟩) (fun _ _ _ _ _ => pg_name (i := 5) n12 rfl (.inl rfl)) (fun _ _ _ _ _ => pts_nil) (fun _ _ _ _ _ => pv 5) (fun s H C cl fp => pe_callTy (X := Cx.blk X s H _ (compEnvC _ cl C X.env) fp) call_int1 (by show _ = _; kernel_rfl) m.int (by decide +kernel) (pa_cons (pe_cmpR (r := rIn X.K false) op_in_seq (pv 5) (pv 2) rfl) pa_nil))) rfl)
    (pss_cons (ps_set (X := X) (i := 6) n12 rfl (by first | exact .inl rfl | exact .inr rfl) pe_int rfl)
    (pss_cons (ps_while (X := X) (passes_of rfl) (pt_cmp (pc_neI (pe_lenSetI (X := X) rfl (by show (defScope (topS d_12.at_)).names.lookup _ = _; kernel_rfl) m.len (by show (defScope (topS d_12.at_)).names.lookup _ = _; kernel_rfl) m.set (pe_lc (X := X) (own := [("here", 5)]) rfl n12 (pi_list (pv (X := X) 3)) (blk12 ⟨rfl, by decide +kernel, by decide +kernel, by decide +kernel, by decide +kernel⟩) (fun _ _ _ _ _ => pg_name (i := 5) n12 rfl (.inl rfl)) (fun _ _ _ _ _ => pts_nil) (fun _ _ _ _ _ => pe_dget hu1 (pv 4) (pv 5) (fun _ _ => rfl)))) (pv 6))) (w12_ps hu m))
    (pss_one (ps_ret (pv (X := X) 4))))), ?_⟩
  refine q_asgP (P := fun v H' => ∃ p, v = .ref p ∧ H' p = some (.dK (kvF 2))) (ed_dc (n := 2) kvF (fun i => .inl (i : Int)) (fun i => .int (1 - (i : Int))) rfl (fun i hi => by rcases two_cases hi with rfl | rfl <;> rfl) (fun i hi => by rcases two_cases hi with rfl | rfl <;> (show _ ≤ 1000; decide)) (ei_list (xs := [.int 0, .int 1]) (fun H5 e5 Q q => ⟨.ref hl, rfl, q _ H5 (Ex.refl _) ⟨hl, rfl, e5 _ _ hhl⟩⟩)) (fun i x H' hi e' hx Q k => ?_)) fun v H1 e1 ⟨fd, ev, hfd⟩ => ?_
  · obtain ⟨rfl, _⟩ := hl_get hx
    refine k _ H' (Ex.refl _) rfl (ev_var rfl) fun H6 e6 Q6 q6 => ?_
    refine ev_cb1.mpr ((ev_op (ev_var rfl) (ev_var rfl) (rv_inT (K := X.K) (neg := false) (st_of (e' _ _ hgd)) rfl rfl)) H6 e6 _ fun H7 e7 => .inr ⟨_, rfl, ?_⟩)
    rcases two_cases hi with rfl | rfl
    · exact q6 H7 e7
    · exact q6 H7 e7
  · subst ev
    refine q_asg ev_c fun H2 e2 => ?_
    have C2 : CD H2 fd := e2 _ _ hfd
    have e12 := e1.trans e2
    refine ⟨fun m σ H3 => ∃ (fd : Addr) (two : Bool) (x5 x7 x8 x9 x10 x11 x12 x13 : Option V), σ = s12 t gd hl (some (.ref fd)) x5 (some (.int (cond two 2 0))) x7 x8 x9 x10 x11 x12 x13 ∧ CD H3 fd ∧ Ex H H3 ∧ m = cond two 0 1, ⟨1, fd, false, none, none, none, none, none, none, none, none, rfl, C2, e12, rfl⟩, ?_⟩
    rintro m' σ H3 ⟨fd, two, x5, x7, x8, x9, x10, x11, x12, x13, rfl, C3, e3, rfl⟩
    have lcE := ev_lenset (K := X.K) (ns := [1, 0]) (σ := s12 t gd hl (some (.ref fd)) x5 (some (.int (cond two 2 0))) x7 x8 x9 x10 x11 x12 x13) (el_lcL (vs := [5]) (j := 5) (te := tDGet (tVar 4) (tVar 5)) (t := tYes) (tl := tVar 3) (K := X.K) (xs := [.int 0, .int 1]) (fun _ => true) (fun i => .int (1 - (i : Int))) (ev_var rfl) (sq_of (e3 _ _ hhl)) (by show 2 ≤ 40000; omega) (fun _ => rfl) (fun _ _ _ _ _ => et_yes) (fun i x H4 e4 hx _ => by
      obtain ⟨rfl, hi⟩ := hl_get hx
      exact ev_cd (ev_var rfl) (e4 _ _ C3) rfl (nat01 hi))) (by decide) (by decide)
    refine ne_read.mpr (lcE H3 (Ex.refl _) _ fun H4 e4 => ⟨_, rfl, 2, _, rfl, rfl, _, rfl, ?_⟩)
    cases two with
    | true => exact ⟨.ref fd, rfl, hQ fd H4 (e3.trans e4) (e4 _ _ C3)⟩
    | false =>
      exact ⟨fun σ' H' => ∃ (fd : Addr) (x5 x7 x8 x9 x10 x11 x12 x13 : Option V), σ' = s12 t gd hl (some (.ref fd)) x5 (some (.int 2)) x7 x8 x9 x10 x11 x12 x13 ∧ CD H' fd ∧ Ex H H', fun σ' H' ⟨fd, x5, x7, x8, x9, x10, x11, x12, x13, e, C, k⟩ => ⟨0, by show 0 < 1; omega, fd, true, x5, x7, x8, x9, x10, x11, x12, x13, e, C, k, rfl⟩,
        t, gd, hl, fd, x5, _, x7, x8, x9, x10, x11, x12, x13, rfl, tab_ex T (e3.trans e4), e4 _ _ C3, (e3.trans e4) _ _ hhl, fun fd' x5 x7 x8 x9 x10 x11 x12 x13 H' k C' => ⟨fd', x5, x7, x8, x9, x10, x11, x12, x13, rfl, C', (e3.trans e4).trans k⟩⟩
end
end Nk
end
section
set_option Elab.async false
set_option linter.all false
set_option maxRecDepth 100000
set_option maxHeartbeats 1000000
/-! first_rows and classes_of as callees -/
namespace Nk
open PySem PySem.Spec PyProof.Rows L2 Evl
section
variable {w : World} {K : PySem.W.Frag} {mg : Str → Option Value} {base : Heap}
theorem fr_ok {fa : Addr} {fd : FuncData} (F : Fun K d_11.name d_11.name (topS d_11.at_) fa fd) (m : Fre mg) : FnOk NkH.PP w K mg base (L2N.CX NkH.PP w) 0 fa fd d_11.pars spFR := by
  have S := (Dd.scope (d := d_11) (by kernel_rfl)).1
  obtain ⟨_, _, _, _, _, _, _, _, _, rfl, look, code⟩ := F.ex
  exact fn_of0 look code S (fun vs H Q E ⟨t, e, _⟩ => by rw [e]; rfl) fun A outer s H vs Q E hh hu h => fr_body (Nat.lt_of_le_of_lt (Nat.add_le_add_left (by decide : 100 ≤ 180) _) hu) m.range m.sorted h
theorem cl_ok {fa : Addr} {fd : FuncData} (F : Fun K d_12.name d_12.name (topS d_12.at_) fa fd) (m : Fre mg) : FnOk NkH.PP w K mg base (L2N.CX NkH.PP w) 0 fa fd d_12.pars spCL := by
  have S := (Dd.scope (d := d_12) (by kernel_rfl)).1
  obtain ⟨_, _, _, _, _, _, _, _, _, rfl, look, code⟩ := F.ex
  exact fn_of0 look code S (fun vs H Q E ⟨t, gd, hl, e, _⟩ => by rw [e]; rfl) fun A outer s H vs Q E hh hu h => cl_body (Nat.lt_of_le_of_lt (Nat.add_le_add_left (by decide : 100 ≤ 180) _) hu) m h
end
end Nk
end
section
set_option Elab.async false
set_option linter.all false
set_option maxRecDepth 100000
set_option maxHeartbeats 1000000
/-! least_of_table at the one input: heads -/
namespace Nk
open PySem PySem.Spec PyProof.Rows L2 Evl
def for13a : List Stmt := at1 (defBody (topS d_13.at_)) 3
def for13b : List Stmt := at1 (defBody (topS d_13.at_)) 7
abbrev X13 (w : World) (K : PySem.W.Frag) (mg : Str → Option Value) (base : Heap) (fa : Addr) (cdv : Value) (A : Around) (outer : List PySem.Env) (s : Shared) (H : Hp) (E : XK) : Cx := cxOf (L2N.CX NkH.PP w) NkH.PP w K mg base d_13.N d_13.name (defScope (topS d_13.at_)) fa cdv A outer s H E
abbrev s13 (t gd rw fd : Addr) (x5 x6 x7 x8 x9 x10 x11 x12 x13 x14 x15 : Option V) : L2.St := [some (.int 2), some (.ref t), some (.ref gd), some (.ref rw), some (.ref fd), x5, x6, x7, x8, x9, x10, x11, x12, x13, x14, x15]
theorem n13 : d_13.N.Nodup := by decide +kernel
section
variable {w : World} {K : PySem.W.Frag} {mg : Str → Option Value} {base : Heap} {fa : Addr} {cdv : Value} {A : Around} {outer : List PySem.Env} {s0 : Shared} {H0 : Hp} {E : XK}
theorem blk13 {scope : Scope} {own : List (Str × Nat)} (h : BlkOk d_13.N (defScope (topS d_13.at_)) scope own) : BlkOk (X13 w K mg base fa cdv A outer s0 H0 E).N (X13 w K mg base fa cdv A outer s0 H0 E).env.scope scope own := h
/-- the heads so far: number 1 - h to h -/
def hdF : Nat → List (Key × V)
  | 0 => []
  | i + 1 => putK (hdF i) (.inl (1 - (i : Int))) (.int (i : Int))
def hdR13 : TS := fun D σ H => ∃ (t gd rw fd hd : Addr) (h : Nat) (x7 x8 x9 x10 x11 x12 x13 x14 x15 : Option V), σ = s13 t gd rw fd (some (.ref hd)) (some (.int (h : Int))) x7 x8 x9 x10 x11 x12 x13 x14 x15 ∧ CD H fd ∧ H hd = some (.dK (hdF h)) ∧ h < 2 ∧
  ∀ H', Kb hd H H' → H' hd = some (.dK (hdF (h + 1))) → D.nx (s13 t gd rw fd (some (.ref hd)) (some (.int (h : Int))) x7 x8 x9 x10 x11 x12 x13 x14 x15) H'
theorem hd_ps (hu : (X13 w K mg base fa cdv A outer s0 H0 E).A.units + 100 < cLine) : PSs (X13 w K mg base fa cdv A outer s0 H0 E) for13a hdR13 := by
  let X := X13 w K mg base fa cdv A outer s0 H0 E
  have hu1 : X.A.units + 1 < cLine := by have : X.A.units + 100 < cLine := hu; omega
  have hu9 : X.A.units + 9 < cLine := by have : X.A.units + 100 < cLine := hu; omega
  refine PSs.imp (pss_one (ps_if (PW.pt (pw_or (pt_cmp (pc_dnotin (X := X) hu1 (pe_dget hu1 (pv 4) (pv 6) (fun _ _ => rfl)) (pv 5))) (pw_or1 (pt_cmpR (op_ltD hu9) (pe_dget hu1 (pv 3) (pv 6) (fun _ _ => rfl)) (pe_dget hu1 (pv 3) (pe_dget hu1 (pv 5) (pe_dget hu1 (pv 4) (pv 6) (fun _ _ => rfl)) (fun _ _ => rfl)) (fun _ _ => rfl)) rfl))))
    (pss_one (ps_dput hu1 (pv 5) (pe_dget hu1 (pv 4) (pv 6) (fun _ _ => rfl)) (pv 6) rfl)) pss_nil)) fun D σ H q => ?_
  obtain ⟨t, gd, rw', fd, hd, h, x7, x8, x9, x10, x11, x12, x13, x14, x15, rfl, C, hhd, lh, nx⟩ := q
  have g : DGet H hd (.int (1 - (h : Int))) none := by
    rcases two_cases lh with rfl | rfl
    · exact .inl ⟨_, .inl 1, .inl hhd, rfl, rfl⟩
    · exact .inl ⟨_, .inl 0, .inl hhd, rfl, rfl⟩
  have len : (hdF h).length < sizeLine := by
    rw [sizeLine_eq]
    rcases two_cases lh with rfl | rfl
    · show 0 < _; omega
    · show 1 < _; omega
  refine ⟨.ref fd, rfl, .int (h : Int), rfl, fd, _, rfl, cd_get C (nat01 lh), .ref hd, rfl, hd, none, rfl, g, _, rfl, ?_⟩
  exact ⟨.int (h : Int), rfl, .ref hd, rfl, .ref fd, rfl, .int (h : Int), rfl, fd, _, rfl, cd_get C (nat01 lh), hd, _, rfl, DPut.k (k := .inl (1 - (h : Int))) hhd len, nx _ Kb.at upd_same⟩
end
end Nk
end
section
set_option Elab.async false
set_option linter.all false
set_option maxRecDepth 100000
set_option maxHeartbeats 1000000
/-! a dict that is walked by a comprehension -/
namespace Nk
open PySem PySem.Spec PyProof.Rows L2 Evl
section
variable {td : TE} {σ : L2.St} {H : Hp}
theorem ei_keys {d : Addr} {o : Obj} {kvs : List (Key × V)} (h : Ev td σ H (.ref d)) (hd : H d = some (.frz o (.dK kvs))) : EvI (iKeys td) σ H kvs.length fun i x _ => ∃ k v, kvs[i]? = some (k, v) ∧ x = kV k := by
  intro H1 e R q
  refine h H1 e _ fun H2 e2 => ⟨d, o, rfl, .inl ⟨kvs, e2 _ _ (e _ _ hd), q _ H2 e2 ⟨fun i H' hi e' => ⟨e' _ _ (e2 _ _ (e _ _ hd)), hi⟩, fun H' e' => ⟨e' _ _ (e2 _ _ (e _ _ hd)), Nat.le_refl _⟩, fun i x H' H'' hi e' hy => ?_⟩⟩⟩
  obtain ⟨rfl, hy⟩ := hy
  exact ⟨Ex.refl _, hy⟩
/-- under the lock -/
theorem ep_lock {te : TE} {d : Addr} {u : HO} {P P' : V → Hp → Prop} (hd : H d = some u) (mu : Mut (some u)) (h : ∀ od H1, Ex H H1 → EvP te σ (upd H1 d (.frz od u)) P) (hP : ∀ v od H', H' d = some (.frz od u) → P v H' → P' v (upd H' d u)) : EvP (tLockE te) σ H P' := by
  intro H1 e Q q
  refine ⟨d, u, e _ _ hd, mu, fun od => h od H1 e _ (Ex.refl _) _ fun v H2 e2 p => ?_⟩
  have hz : H2 d = some (.frz od u) := e2 _ _ upd_same
  refine ⟨hz, q v _ (fun b o hb => ?_) (hP v od H2 hz p)⟩
  by_cases z : b = d
  · subst z
    rw [upd_same, ← hb]
    exact (e _ _ hd).symm
  · rw [upd_ne z]
    exact e2 _ _ (by rw [upd_ne z]; exact hb)
end
end Nk
end
section
set_option Elab.async false
set_option linter.all false
set_option maxRecDepth 100000
set_option maxHeartbeats 1000000
/-! least_of_table at the one input: order -/
namespace Nk
open PySem PySem.Spec PyProof.Rows L2 Evl
def D0 : PyData := .tuple [.tuple [.int 0, .tuple []], .int 0]
def D1 : PyData := .tuple [P1, .int 1]
theorem alike_D : ∀ d ∈ [D0, D1], ∀ e ∈ [D0, D1], PySem.W.alike d e = true := by
  intro d hd e he
  simp only [List.mem_cons, List.not_mem_nil, or_false] at hd he
  rcases hd with rfl | rfl <;> rcases he with rfl | rfl <;> simp [D0, D1, P1, PySem.W.alike, PySem.W.alikeAll]
theorem lt_10 : PySem.W.dataLt D1 D0 = false := by decide +kernel
theorem sort_D (T0 T1 : Addr) : ([((V.ref T0), D0), (V.ref T1, D1)] : List (V × PyData)).mergeSort (PySem.W.dataLe false (·.2)) = [(V.ref T0, D0), (V.ref T1, D1)] := by
  refine List.mergeSort_of_pairwise ?_
  rw [PySem.W.dataLe_eq]
  simp [lt_10]
section
variable {K : PySem.W.Frag}
theorem dp_D0 {H : Hp} {T z e : Addr} (h1 : H T = some (.tup [.ref z, .int 0])) (h2 : H z = some (.tup [.int 0, .ref e])) (h3 : H e = some (.tup [])) : Dp K H (.ref T) D0 :=
  .tup (SqT.of h1) (.cons (.tup (SqT.of h2) (.cons (dp_int 0) (.cons (dp_e h3) .nil))) (.cons (dp_int 0) .nil))
theorem dp_D1 {H : Hp} {T y q r e : Addr} (h1 : H T = some (.tup [.ref y, .int 1])) (a2 : H y = some (.tup [.int 1, .ref q])) (a3 : H q = some (.tup [.ref r])) (a4 : H r = some (.tup [.int 1, .ref e])) (a5 : H e = some (.tup [])) : Dp K H (.ref T) D1 :=
  .tup (SqT.of h1) (.cons (dp_1 a2 a3 a4 a5) (.cons (dp_int 1) .nil))
/-- [(rows[heads[number]], heads[number]) for number in heads] -/
theorem prs_ep {H : Hp} {t gd rw fd hd z y : Addr} {x6 x7 x8 x9 x10 x11 x12 x13 x14 x15 : Option V} (hrw : H rw = some (.dK [(.inl 0, .ref z), (.inl 1, .ref y)])) (hhd : H hd = some (.dK (hdF 2))) :
    EvP (tLockE (tLc (iKeys (tVar 5)) (gName 9) tYes (tTup (tCons (tDGet (tVar 3) (tDGet (tVar 5) (tVar 9))) (tCons (tDGet (tVar 5) (tVar 9)) tNil))) [9])) (s13 t gd rw fd (some (.ref hd)) x6 x7 x8 x9 x10 x11 x12 x13 x14 x15) H (fun v H' => ∃ p ys, v = .ref p ∧ H' p = some (.lst ys) ∧ SO y z 2 ys H') := by
  have nrw : rw ≠ hd := fun q => by rw [q, hhd] at hrw; cases hrw
  refine ep_lock (P := fun v H' => ∃ p ys, v = .ref p ∧ H' p = some (.lst ys) ∧ SO y z 2 ys H') (d := hd) (u := .dK (hdF 2)) hhd trivial (fun od H1 e1 => ?_) fun v od H' hz ⟨p, ys, ev, hp, hS⟩ => ⟨p, ys, ev, ?_, hS.1, fun k w hk => ?_⟩
  · have hrw1 : upd H1 hd (.frz od (.dK (hdF 2))) rw = some (.dK [(.inl 0, .ref z), (.inl 1, .ref y)]) := by rw [upd_ne nrw]; exact e1 _ _ hrw
    refine ep_lc (n := 2) (SO y z) (fun _ => true) (by omega) (SO.stb y z) (fun H => ⟨rfl, fun k y h => by simp at h⟩) (ei_keys (kvs := hdF 2) (ev_var rfl) upd_same) (fun i x H' hi e' hI Q k => ?_) (fun i ys H hi hf => nomatch hf)
    obtain ⟨kk, vv, hkv, rfl⟩ := hI
    have hx : kk = .inl (1 - (i : Int)) ∧ vv = .int (i : Int) := by
      rcases two_cases hi with rfl | rfl
      · cases hkv; exact ⟨rfl, rfl⟩
      · cases hkv; exact ⟨rfl, rfl⟩
    obtain ⟨rfl, rfl⟩ := hx
    have gh : ∀ H2, Ex H' H2 → DGet H2 hd (.int (1 - (i : Int))) (some (.int (i : Int))) := fun H2 e2 => by
      have := e2 _ _ (e' _ _ upd_same)
      rcases two_cases hi with rfl | rfl
      · exact .inl ⟨hdF 2, .inl 1, .inr ⟨od, this⟩, rfl, rfl⟩
      · exact .inl ⟨hdF 2, .inl 0, .inr ⟨od, this⟩, rfl, rfl⟩
    have gr : ∀ H2, Ex H' H2 → DGet H2 rw (.int (i : Int)) (some (.ref (if i = 0 then z else y))) := fun H2 e2 => rd_get (e2 _ _ (e' _ _ hrw1)) hi
    refine k _ H' (Ex.refl _) rfl et_yes fun _ => fun H4 e4 Q4 q4 => ?_
    refine (eu_tup (H := H') (vs := [.ref (if i = 0 then z else y), .int (i : Int)]) (ea_cons (fun H5 e5 Q5 q5 => ⟨.ref rw, rfl, .ref hd, rfl, .int (1 - (i : Int)), rfl, hd, _, rfl, gh H5 e5, rw, _, rfl, gr H5 e5, q5 H5 (Ex.refl _)⟩) (ea_cons (fun H5 e5 Q5 q5 => ⟨.ref hd, rfl, .int (1 - (i : Int)), rfl, hd, _, rfl, gh H5 e5, q5 H5 (Ex.refl _)⟩) ea_nil)) (by show 2 ≤ 100000; omega)) H4 e4 _ fun p H5 _ e5 hp => q4 _ H5 e5 fun ys hs => SO.snoc hs hp
  · have : p ≠ hd := fun q => by rw [q, hz] at hp; cases hp
    rw [upd_ne this]; exact hp
  · obtain ⟨T, a, b⟩ := hS.2 k w hk
    refine ⟨T, a, ?_⟩
    have : T ≠ hd := fun q => by rw [q, hz] at b; cases b
    rw [upd_ne this]; exact b
/-- order -/
theorem ord_ep {H : Hp} {t gd rw fd hd : Addr} {x6 x7 x8 x9 x10 x11 x12 x13 x14 x15 : Option V} (F : FD true H rw) (hhd : H hd = some (.dK (hdF 2))) :
    EvP (tLc (iList K (tCB (rSortD K) (tCons (tLockE (tLc (iKeys (tVar 5)) (gName 9) tYes (tTup (tCons (tDGet (tVar 3) (tDGet (tVar 5) (tVar 9))) (tCons (tDGet (tVar 5) (tVar 9)) tNil))) [9])) tNil))) (gTup K 2 (gCons (gName 8) (gCons (gName 6) gNil))) tYes (tVar 6) [8, 6]) (s13 t gd rw fd (some (.ref hd)) x6 x7 x8 x9 x10 x11 x12 x13 x14 x15) H (fun v H' => ∃ o, v = .ref o ∧ H' o = some (.lst [.int 0, .int 1])) := by
  obtain ⟨z, e, f1, f2, _, f3⟩ := F
  obtain ⟨y, q, r, e', hrw, a2, a3, a4, a5⟩ := f3 rfl
  have sorted : EvP (tCB (rSortD K) (tCons (tLockE (tLc (iKeys (tVar 5)) (gName 9) tYes (tTup (tCons (tDGet (tVar 3) (tDGet (tVar 5) (tVar 9))) (tCons (tDGet (tVar 5) (tVar 9)) tNil))) [9])) tNil)) (s13 t gd rw fd (some (.ref hd)) x6 x7 x8 x9 x10 x11 x12 x13 x14 x15) H (fun v H' => ∃ p T0 T1, v = .ref p ∧ H' p = some (.lst [.ref T0, .ref T1]) ∧ H' T0 = some (.tup [.ref z, .int 0]) ∧ H' T1 = some (.tup [.ref y, .int 1])) := fun H1 e1 Q k => by
    refine ev_cb1.mpr (prs_ep hrw hhd H1 e1 _ fun v H2 e2 ⟨p, ys, ev, hp, hS⟩ => ?_)
    subst ev
    match ys, hS with
    | [], hS => exact absurd hS.1 (by simp)
    | [_], hS => exact absurd hS.1 (by simp)
    | _ :: _ :: _ :: _, hS => exact absurd hS.1 (by simp)
    | [y0, y1], hS =>
      obtain ⟨T0, rfl, hT0⟩ := hS.2 0 y0 rfl
      obtain ⟨T1, rfl, hT1⟩ := hS.2 1 y1 rfl
      have g : ∀ {b : Addr} {u : HO}, H b = some u → H2 b = some u := fun h => e2 _ _ (e1 _ _ h)
      refine ⟨p, [(V.ref T0, D0), (V.ref T1, D1)], rfl, sq_of hp, fun b hb => ?_, fun d hd e he => alike_D d hd e he, .inl fun d hd => ?_, fun b hb => ?_, fun p' np => ?_⟩
      · rcases List.mem_cons.mp hb with rfl | hb
        · exact dp_D0 hT0 (g f1) (g f2)
        · obtain rfl := List.mem_singleton.mp hb
          exact dp_D1 hT1 (g a2) (g a3) (g a4) (g a5)
      · rcases List.mem_cons.mp hd with rfl | hd
        · exact ⟨_, _, rfl⟩
        · obtain rfl := List.mem_singleton.mp hd
          exact ⟨_, _, rfl⟩
      · rcases List.mem_cons.mp hb with rfl | hb
        · show D0.depth ≤ 8; decide
        · obtain rfl := List.mem_singleton.mp hb
          show D1.depth ≤ 8; decide
      · rw [sort_D]
        exact k _ _ (e2.trans (Ex.new np)) ⟨p', T0, T1, rfl, upd_same, Ex.new np _ _ hT0, Ex.new np _ _ hT1⟩
  intro H1 e1 Q k
  refine sorted H1 e1 _ fun v H2 e2 ⟨p, T0, T1, ev, hp, h0, h1⟩ => ?_
  refine ⟨p, ev, ⟨_, sq_of hp⟩, ?_⟩
  intro D nD
  refine lc_list (xs := [.ref T0, .ref T1]) (fun i H' => H2 D = none ∧ Ex H2 H' ∧ H' D = some (.lst ([V.int 0, .int 1].take i))) ⟨nD, Ex.new nD, upd_same⟩ (fun i H' _ q => sq_of (q.2.1 _ _ hp)) (fun i x H' hx q => ?_) (fun H' q => k _ H' (e2.trans q.2.1) ⟨D, rfl, q.2.2⟩)
  obtain ⟨_, e3, hD⟩ := q
  match i, hx with
  | 0, hx => cases hx; exact ⟨T0, _, rfl, SqT.of (e3 _ _ h0), rfl, _, _, rfl, _, _, rfl, rfl, rfl, .int 0, rfl, _, hD, by show 0 < sizeLine; rw [sizeLine_eq]; omega, nD, Ex.mut e3 nD, upd_same⟩
  | 1, hx => cases hx; exact ⟨T1, _, rfl, SqT.of (e3 _ _ h1), rfl, _, _, rfl, _, _, rfl, rfl, rfl, .int 1, rfl, _, hD, by show 1 < sizeLine; rw [sizeLine_eq]; omega, nD, Ex.mut e3 nD, upd_same⟩
  | n + 2, hx => simp at hx
end
end Nk
end
section
set_option Elab.async false
set_option linter.all false
set_option maxRecDepth 100000
set_option maxHeartbeats 1000000
/-! least_of_table at the one input: numbers, fresh -/
namespace Nk
open PySem PySem.Spec PyProof.Rows L2 Evl
/-- the pairs (1 - k, k) -/
def SN (i : Nat) (ys : List V) (H : Hp) : Prop := ys.length = i ∧ ∀ (k : Nat) (y : V), ys[k]? = some y → ∃ T, y = V.ref T ∧ H T = some (.tup [.int (1 - (k : Int)), .int (k : Int)])
theorem SN.stb (i : Nat) : Stb (SN i) where
  e := fun ys H H' e h => ⟨h.1, fun k y hy => by
    obtain ⟨T, a, b⟩ := h.2 k y hy
    exact ⟨T, a, e _ _ b⟩⟩
  l := fun ys H D acc acc' hD h => ⟨h.1, fun k y hy => by
    obtain ⟨T, a, b⟩ := h.2 k y hy
    refine ⟨T, a, ?_⟩
    have : T ≠ D := fun z => by rw [z, hD] at b; cases b
    rw [upd_ne this]; exact b⟩
theorem SN.snoc {i : Nat} {ys : List V} {H : Hp} {p : Addr} (h : SN i ys H) (hp : H p = some (.tup [.int (1 - (i : Int)), .int (i : Int)])) : SN (i + 1) (ys ++ [.ref p]) H := by
  refine ⟨by rw [List.length_append, h.1]; rfl, fun k y hy => ?_⟩
  by_cases hk : k < ys.length
  · rw [List.getElem?_append_left hk] at hy
    exact h.2 k y hy
  · rw [List.getElem?_append_right (by omega)] at hy
    have e : k = i := by
      have := (List.getElem?_eq_some_iff.mp hy).1
      have hl := h.1
      simp at this
      omega
    subst e
    rw [show k - ys.length = 0 by have := h.1; omega] at hy
    cases hy
    exact ⟨p, rfl, hp⟩
def rDictK (K : PySem.W.Frag) : List V → Hp → VK → Prop := fun xs H Q => ∃ (a : Addr) (ps : List Addr) (kvs : List (Key × V)), xs = [.ref a] ∧ SqL K H a (ps.map V.ref) ∧ Paired (fun p kv => SqT K H p [kV kv.1, kv.2]) ps kvs ∧ ∀ p, H p = none → Q (.ref p) (upd H p (.dK (mergeK [] kvs)))
theorem cr_dictK {X : Cx} (hc : X.calm = true) : CallR X (.type "dict") (rDictK X.K) := call_dictP hc
theorem num_ep {K : PySem.W.Frag} {H : Hp} {t gd rw fd hd o : Addr} {x6 x8 x9 x10 x11 x12 x13 x14 x15 : Option V} (C : CD H fd) (ho : H o = some (.lst [.int 0, .int 1])) :
    EvP (tCB (rDictK K) (tCons (tLc (iEnum K (tCons (tVar 7) tNil)) (gTup K 2 (gCons (gName 11) (gCons (gName 6) gNil))) tYes (tTup (tCons (tDGet (tVar 4) (tVar 6)) (tCons (tVar 11) tNil))) [11, 6]) tNil)) (s13 t gd rw fd (some (.ref hd)) x6 (some (.ref o)) x8 x9 x10 x11 x12 x13 x14 x15) H (fun v H' => ∃ nb, v = .ref nb ∧ H' nb = some (.dK (hdF 2))) := by
  have epl : EvP (tLc (iEnum K (tCons (tVar 7) tNil)) (gTup K 2 (gCons (gName 11) (gCons (gName 6) gNil))) tYes (tTup (tCons (tDGet (tVar 4) (tVar 6)) (tCons (tVar 11) tNil))) [11, 6]) (s13 t gd rw fd (some (.ref hd)) x6 (some (.ref o)) x8 x9 x10 x11 x12 x13 x14 x15) H (fun v H' => ∃ p ys, v = .ref p ∧ H' p = some (.lst ys) ∧ SN 2 ys H') :=
    ep_lc (n := 2) SN (fun _ => true) (by omega) SN.stb (fun H => ⟨rfl, fun k y h => by simp at h⟩) (ei_enum (xs := [.int 0, .int 1]) (fun H1 e1 Q q => ⟨.ref o, rfl, q _ H1 (Ex.refl _) ⟨o, rfl, e1 _ _ ho⟩⟩))
      (fun i x H' hi e' hI Q k => by
        obtain ⟨T, y, rfl, hT, hy⟩ := hI
        obtain ⟨rfl, _⟩ := hl_get hy
        refine ⟨T, _, rfl, SqT.of hT, rfl, ?_⟩
        refine ⟨_, _, rfl, _, _, rfl, rfl, ?_⟩
        refine k _ H' (Ex.refl _) rfl et_yes fun _ => fun H4 e4 Q4 q4 => (eu_tup (vs := [.int (1 - (i : Int)), .int (i : Int)]) (ea_cons (ev_cd (ev_var rfl) (e' _ _ C) rfl (nat01 hi)) (ea_cons (ev_var rfl) ea_nil)) (by show 2 ≤ 100000; omega)) H4 e4 _ fun p H5 _ e5 hp => q4 _ H5 e5 fun ys hs => SN.snoc hs hp)
      (fun i ys H hi hf => nomatch hf)
  intro H4 e4 Q q
  refine ev_cb1.mpr (epl H4 e4 _ fun v H5 e5 ⟨l, ys, ev, hl, hS⟩ => ?_)
  subst ev
  match ys, hS with
  | [], hS => exact absurd hS.1 (by simp)
  | [_], hS => exact absurd hS.1 (by simp)
  | _ :: _ :: _ :: _, hS => exact absurd hS.1 (by simp)
  | [y0, y1], hS =>
    obtain ⟨T0, rfl, hT0⟩ := hS.2 0 y0 rfl
    obtain ⟨T1, rfl, hT1⟩ := hS.2 1 y1 rfl
    exact ⟨l, [T0, T1], [(.inl 1, .int 0), (.inl 0, .int 1)], rfl, sq_of hl, .cons (SqT.of hT0) (.cons (SqT.of hT1) .nil), fun p np => q _ _ (e5.trans (Ex.new np)) ⟨p, rfl, upd_same⟩⟩
end Nk
end
section
set_option Elab.async false
set_option linter.all false
set_option maxRecDepth 100000
set_option maxHeartbeats 1000000
/-! least_of_table at the one input: fresh -/
namespace Nk
open PySem PySem.Spec PyProof.Rows L2 Evl
/-- a list of tuples, the k-th holds f k -/
def ST (f : Nat → List V) (i : Nat) (ys : List V) (H : Hp) : Prop := ys.length = i ∧ ∀ (k : Nat) (y : V), ys[k]? = some y → ∃ T, y = V.ref T ∧ H T = some (.tup (f k))
theorem ST.stb (f : Nat → List V) (i : Nat) : Stb (ST f i) where
  e := fun ys H H' e h => ⟨h.1, fun k y hy => by
    obtain ⟨T, a, b⟩ := h.2 k y hy
    exact ⟨T, a, e _ _ b⟩⟩
  l := fun ys H D acc acc' hD h => ⟨h.1, fun k y hy => by
    obtain ⟨T, a, b⟩ := h.2 k y hy
    refine ⟨T, a, ?_⟩
    have : T ≠ D := fun z => by rw [z, hD] at b; cases b
    rw [upd_ne this]; exact b⟩
theorem ST.snoc {f : Nat → List V} {i : Nat} {ys : List V} {H : Hp} {p : Addr} (h : ST f i ys H) (hp : H p = some (.tup (f i))) : ST f (i + 1) (ys ++ [.ref p]) H := by
  refine ⟨by rw [List.length_append, h.1]; rfl, fun k y hy => ?_⟩
  by_cases hk : k < ys.length
  · rw [List.getElem?_append_left hk] at hy
    exact h.2 k y hy
  · rw [List.getElem?_append_right (by omega)] at hy
    have e : k = i := by
      have := (List.getElem?_eq_some_iff.mp hy).1
      have hl := h.1
      simp at this
      omega
    subst e
    rw [show k - ys.length = 0 by have := h.1; omega] at hy
    cases hy
    exact ⟨p, rfl, hp⟩
theorem hd_get {H : Hp} {f : Addr} {n : Int} (x : H f = some (.dK (hdF 2))) (hn : n = 0 ∨ n = 1) : DGet H f (.int n) (some (.int (1 - n))) := by
  rcases hn with rfl | rfl
  · exact .inl ⟨hdF 2, .inl 0, .inl x, rfl, rfl⟩
  · exact .inl ⟨hdF 2, .inl 1, .inl x, rfl, rfl⟩
theorem ev_hd {σ : L2.St} {H : Hp} {te : TE} {k : Nat} {f : Addr} {n : Int} (h : Ev te σ H (.int n)) (x : H f = some (.dK (hdF 2))) (a : σ[k]? = some (some (.ref f))) (hn : n = 0 ∨ n = 1) : Ev (tDGet (tVar k) te) σ H (.int (1 - n)) := fun H1 e Q q =>
  ⟨.ref f, a, h H1 e _ fun H2 e2 => ⟨f, _, rfl, hd_get (e2 _ _ (e _ _ x)) hn, q H2 e2⟩⟩
section
variable {w : World} {K : PySem.W.Frag} {mg : Str → Option Value} {base : Heap} {fa : Addr} {cdv : Value} {A : Around} {outer : List PySem.Env} {s0 : Shared} {H0 : Hp} {E : XK}
def fx13 : TS := fun D σ H => ∃ (t gd rw fd hd o nb fr : Addr) (h : Nat) (xs : List V) (x8 x9 x11 x13 x14 x15 : Option V), σ = s13 t gd rw fd (some (.ref hd)) (some (.int (h : Int))) (some (.ref o)) x8 x9 (some (.ref nb)) x11 (some (.ref fr)) x13 x14 x15 ∧ TabR H t ∧ CD H fd ∧ H o = some (.lst [.int 0, .int 1]) ∧ H nb = some (.dK (hdF 2)) ∧ H fr = some (.lst xs) ∧ xs.length ≤ 500 ∧ h < 2 ∧
  ∀ x13 q u0 u1 H1, Ex H H1 → H1 q = some (.tup [.ref u0, .ref u1]) → H1 u0 = some (.tup [.int (tv h 0 0), .int (tv h 0 1)]) → H1 u1 = some (.tup [.int (tv h 1 0), .int (tv h 1 1)]) → D.nx (s13 t gd rw fd (some (.ref hd)) (some (.int (h : Int))) (some (.ref o)) x8 x9 (some (.ref nb)) x11 (some (.ref fr)) x13 x14 x15) (upd H1 fr (.lst (xs ++ [.ref q])))
def relS (sc e : Scope) : Scope := { sc with names := sc.names.map fun (n, k) => if (k == .free && e.kind == .function && e.names.lookup n == some .cell) then (n, .cell) else (n, k) }
theorem blkIn {s : Shared} {H : Hp} {sc : Scope} {cl : List (Str × Addr)} {C : Addr} {fp : List Addr} {scope : Scope} {own : List (Str × Nat)} (h : BlkOk d_13.N (relS sc (defScope (topS d_13.at_))) scope own) : BlkOk (Cx.blk (X13 w K mg base fa cdv A outer s0 H0 E) s H sc (compEnvC sc cl C (X13 w K mg base fa cdv A outer s0 H0 E).env) fp).N (Cx.blk (X13 w K mg base fa cdv A outer s0 H0 E) s H sc (compEnvC sc cl C (X13 w K mg base fa cdv A outer s0 H0 E).env) fp).env.scope scope own := h
def te15 (K : PySem.W.Frag) : TE := tCB (fun xs H Q => ∃ p ys, xs = [.ref p] ∧ ((SqL K H p ys ∧ ∀ l, H l = none → Q (.ref l) (upd H l (.tup ys))) ∨ (SqT K H p ys ∧ Q (.ref p) H))) (tCons (tLc (iList K (tVar 7)) (gName 14) tYes (tDGet (tVar 10) (tDGet (tVar 4) (tT3 1 6 15 14))) [14]) tNil)
theorem fx_ps (hu : (X13 w K mg base fa cdv A outer s0 H0 E).A.units + 100 < cLine) (m : Fre mg) : PSs (X13 w K mg base fa cdv A outer s0 H0 E) for13b fx13 := by
  let X := X13 w K mg base fa cdv A outer s0 H0 E
  have hu1 : X.A.units + 1 < cLine := by have : X.A.units + 100 < cLine := hu; omega
  refine PSs.imp (pss_cons (ps_setLc (X := X) (te := te15 K) (i := 13) (own := [("stand", 15)]) rfl n13 rfl rfl (sw_true rfl rfl rfl rfl) (pi_range1 (by show (defScope (topS d_13.at_)).names.lookup _ = _; kernel_rfl) m.range (pa_cons (pv (X := X) 0) pa_nil)) (blk13 ⟨rfl, by decide +kernel, by decide +kernel, by decide +kernel, by decide +kernel⟩) (fun _ _ _ _ _ => pg_name (i := 15) n13 rfl (by first | exact .inl rfl | exact .inr rfl) (.inl rfl)) (fun _ _ _ _ _ => pts_nil)
      (fun s H C cl fp => ?_))
    (pss_one (ps_expr (pe_bm (X := X) PySem.F.plainAttrs_list PySem.F.slot_list_append PySem.F.type_list_append mt_append (pv 12) (pa_cons (pe_callTy (X := X) call_tuple_of (by show (defScope (topS d_13.at_)).names.lookup _ = _; kernel_rfl) m.tuple (by decide +kernel) (pa_cons (pv 13) pa_nil)) pa_nil))))) fun D σ H q => ?_
  · exact pe_callTy (X := Cx.blk X s H _ (compEnvC _ cl C X.env) fp) (r := fun xs H Q => ∃ p ys, xs = [.ref p] ∧ ((SqL X.K H p ys ∧ ∀ l, H l = none → Q (.ref l) (upd H l (.tup ys))) ∨ (SqT X.K H p ys ∧ Q (.ref p) H))) call_tuple_of (by show _ = _; kernel_rfl) m.tuple (by decide +kernel) (pa_cons (pe_lc (X := Cx.blk X s H _ (compEnvC _ cl C X.env) fp) (own := [("inner", 14)]) rfl n13 (pi_list (pv 7)) (blkIn ⟨rfl, by decide +kernel, by decide +kernel, by decide +kernel, by decide +kernel⟩) (fun _ _ _ _ _ => pg_name (i := 14) n13 rfl (.inl rfl)) (fun _ _ _ _ _ => pts_nil) (fun _ _ _ _ _ => pe_dget hu1 (pv 10) (pe_dget hu1 (pv 4) (pe_t3 (pv 1) (pv 6) (pv 15) (pv 14)) (fun _ _ => rfl)) (fun _ _ => rfl))) pa_nil)
  obtain ⟨t, gd, rw', fd, hd, o, nb, fr, h, xs, x8, x9, x11, x13, x14, x15, rfl, T, C, ho, hnb, hfr, hxs, lh, nx⟩ := q
  refine q_asgP (P := fun v H' => ∃ p u0 u1, v = .ref p ∧ H' p = some (.lst [.ref u0, .ref u1]) ∧ H' u0 = some (.tup [.int (tv h 0 0), .int (tv h 0 1)]) ∧ H' u1 = some (.tup [.int (tv h 1 0), .int (tv h 1 1)])) (EvP.imp (ep_lc (n := 2) (I := fun i x _ => x = .int (i : Int)) (ST fun k => [.int (tv h k 0), .int (tv h k 1)]) (fun _ => true) (by omega) (ST.stb _) (fun H => ⟨rfl, fun k y h => by simp at h⟩) (ei_range (n := 2) (by omega) (ev_var rfl)) (fun i x H' hi e' hI Q k => ?_) (fun i ys H hi hf => nomatch hf)) fun v H' e1 ⟨p, ys, ev, hp, hS⟩ => ?_) fun v H1 e1 ⟨p, u0, u1, ev, hp, h0, h1⟩ => ?_
  · obtain rfl := hI
    refine k _ H' (Ex.refl _) rfl et_yes fun _ => fun H4 e4 Q4 q4 => ?_
    refine ev_cb1.mpr (el_lcL (K := X.K) (xs := [.int 0, .int 1]) (fun _ => true) (fun j => .int (tv h i j)) (ev_var rfl) (sq_of ((e'.trans e4) _ _ ho)) (by show 2 ≤ 40000; omega) (fun _ => rfl) (fun _ _ _ _ _ => et_yes) (fun j x H5 e5 hx _ => ?_) H4 (Ex.refl _) _ fun l H5 nl e5 hl => ⟨l, _, rfl, .inl ⟨sq_of hl, fun p np => q4 _ _ (e5.trans (Ex.new np)) fun ys hs => ST.snoc hs upd_same⟩⟩)
    obtain ⟨rfl, hj⟩ := hl_get hx
    have ee := (e'.trans e4).trans e5
    exact ev_is (ev_hd (ev_cd (ev_t3 (tab_ex T ee) rfl rfl rfl rfl lh hi hj) (ee _ _ C) rfl (tv01 h i j)) (ee _ _ hnb) rfl (by have := tv01 h i j; omega)) (congrArg V.int (by omega))
  · match ys, hS with
    | [], hS => exact absurd hS.1 (by simp)
    | [_], hS => exact absurd hS.1 (by simp)
    | _ :: _ :: _ :: _, hS => exact absurd hS.1 (by simp)
    | [y0, y1], hS =>
      obtain ⟨T0, rfl, hT0⟩ := hS.2 0 y0 rfl
      obtain ⟨T1, rfl, hT1⟩ := hS.2 1 y1 rfl
      exact ⟨p, T0, T1, ev, hp, hT0, hT1⟩
  · subst ev
    exact s_appU (K := X.K) (l := fr) (xs := xs) (ys := [.ref u0, .ref u1]) (e1 _ _ hfr) (ev_var rfl) (fun H3 e3 Q q => ev_cb1.mpr ⟨_, rfl, p, _, rfl, .inl ⟨sq_of (e3 _ _ hp), fun l nl => q l _ nl (Ex.new nl) upd_same⟩⟩) (by omega) fun q H2 nq e2 hq => nx (some (.ref p)) q u0 u1 H2 (e1.trans e2) hq (e2 _ _ h0) (e2 _ _ h1)
end
end Nk
end
section
set_option Elab.async false
set_option linter.all false
set_option maxRecDepth 100000
set_option maxHeartbeats 1000000
/-! least_of_table at the one input: what it gives -/
namespace Nk
open PySem PySem.Spec PyProof.Rows L2 Evl
/-- the answer -/
def LotR (H : Hp) (r : Addr) : Prop := ∃ tb g, H r = some (.tup [.int 2, .ref tb, .ref g]) ∧ TabR H tb ∧ H g = some (.tup [.int 0])
def spLT : Sp := fun vs H Q _ => ∃ t gd : Addr, vs = [.int 2, .ref t, .ref gd] ∧ TabR H t ∧ H gd = some (.tup [.int 0]) ∧ ∀ r H', Ex H H' → LotR H' r → Q (.ref r) H'
/-- the list fresh so far -/
def FR (j : Nat) (H : Hp) (fr : Addr) : Prop := ∃ (r : Nat → Addr) (a : Nat → Nat → Addr), H fr = some (.lst ([V.ref (r 0), .ref (r 1)].take j)) ∧ (∀ h, h < j → H (r h) = some (.tup [.ref (a h 0), .ref (a h 1)])) ∧ ∀ h s, h < j → s < 2 → H (a h s) = some (.tup [.int (tv h s 0), .int (tv h s 1)])
theorem FR.put {j : Nat} {H H1 : Hp} {fr q u0 u1 : Addr} {xs : List V} (x : FR j H fr) (hj : j < 2) (e : Ex H H1) (hf : H fr = some (.lst xs)) (hq : H1 q = some (.tup [.ref u0, .ref u1])) (h0 : H1 u0 = some (.tup [.int (tv j 0 0), .int (tv j 0 1)])) (h1 : H1 u1 = some (.tup [.int (tv j 1 0), .int (tv j 1 1)])) :
    FR (j + 1) (upd H1 fr (.lst (xs ++ [.ref q]))) fr := by
  obtain ⟨r, a, f1, f2, f3⟩ := x
  have ne : ∀ {b : Addr} {xs : List V}, H1 b = some (.tup xs) → b ≠ fr := fun z w => by rw [w, e _ _ hf] at z; cases z
  rw [hf] at f1
  obtain rfl : xs = _ := by cases f1; rfl
  refine ⟨fun h => if h = j then q else r h, fun h s => if h = j then (if s = 0 then u0 else u1) else a h s, ?_, fun h hh => ?_, fun h s hh hs => ?_⟩
  · rw [upd_same]
    rcases two_cases hj with rfl | rfl <;> rfl
  · dsimp only
    by_cases z : h = j
    · subst z
      rw [if_pos rfl, if_pos rfl, if_pos rfl, if_pos rfl, if_neg (by omega), upd_ne (ne hq)]
      exact hq
    · rw [if_neg z, if_neg z, if_neg z]
      have := e _ _ (f2 h (by omega))
      rw [upd_ne (ne this)]; exact this
  · dsimp only
    by_cases z : h = j
    · subst z
      rw [if_pos rfl]
      rcases two_cases hs with rfl | rfl
      · rw [if_pos rfl, upd_ne (ne h0)]; exact h0
      · rw [if_neg (by omega), upd_ne (ne h1)]; exact h1
    · rw [if_neg z]
      have := e _ _ (f3 h s (by omega) hs)
      rw [upd_ne (ne this)]; exact this
end Nk
end
section
set_option Elab.async false
set_option linter.all false
set_option maxRecDepth 100000
set_option maxHeartbeats 1000000
/-! least_of_table at the one input: its body -/
namespace Nk
open PySem PySem.Spec PyProof.Rows L2 Evl
section
variable {w : World} {K : PySem.W.Frag} {mg : Str → Option Value} {base : Heap} {fa : Addr} {cdv : Value} {A : Around} {outer : List PySem.Env} {s0 : Shared} {H0 : Hp} {E : XK}
/-- the places of the good standings -/
theorem good_ep {H : Hp} {t gd rw fd hd o : Addr} {x6 x8 x9 x10 x11 x12 x13 x14 x15 : Option V} (ho : H o = some (.lst [.int 0, .int 1])) (hg : H gd = some (.tup [.int 0])) :
    EvP (tLc (iEnum K (tCons (tVar 7) tNil)) (gTup K 2 (gCons (gName 11) (gCons (gName 6) gNil))) (tTest (tOp (rIn K false) (tVar 6) (tVar 2))) (tVar 11) [11, 6]) (s13 t gd rw fd (some (.ref hd)) x6 (some (.ref o)) x8 x9 x10 x11 x12 x13 x14 x15) H (fun v H' => ∃ p, v = .ref p ∧ H' p = some (.lst [.int 0])) := by
  refine EvP.imp (ep_lc (n := 2) (fun i ys _ => ys = if i = 0 then [] else [V.int 0]) (fun i => decide (i = 0)) (by omega) (fun i => ⟨fun _ _ _ _ h => h, fun _ _ _ _ _ _ h => h⟩) (fun H => rfl) (ei_enum (xs := [.int 0, .int 1]) (fun H1 e1 Q q => ⟨.ref o, rfl, q _ H1 (Ex.refl _) ⟨o, rfl, e1 _ _ ho⟩⟩)) (fun i x H' hi e' hI Q k => ?_) (fun i ys H hi hf hs => ?_)) fun v H' _ ⟨p, ys, ev, hp, hs⟩ => ⟨p, ev, by rw [hp, hs]; rfl⟩
  · obtain ⟨T, y, rfl, hT, hy⟩ := hI
    obtain ⟨rfl, _⟩ := hl_get hy
    refine ⟨T, _, rfl, SqT.of hT, rfl, ?_⟩
    refine ⟨_, _, rfl, _, _, rfl, rfl, ?_⟩
    refine k _ H' (Ex.refl _) rfl (et_is (et_test (ev_op (ev_var rfl) (ev_var rfl) (rv_inT (K := K) (neg := false) (st_of (e' _ _ hg)) rfl rfl))) ?_) fun hf => EvP.imp (EvP.of (ev_var (v := .int (i : Int)) rfl)) fun v H'' _ hv ys hs => ?_
    · rcases two_cases hi with rfl | rfl <;> rfl
    · have z : i = 0 := of_decide_eq_true hf
      subst z
      rw [hs, hv]; rfl
  · rcases two_cases hi with rfl | rfl
    · exact absurd hf (by decide)
    · exact hs
def nthS : List Stmt → Nat → Stmt
  | s :: _, 0 => s
  | _ :: r, n + 1 => nthS r n
  | [], _ => default
def B13 : List Stmt := defBody (topS d_13.at_)
theorem B13_eq : B13 = [nthS B13 0, nthS B13 1, nthS B13 2, nthS B13 3, nthS B13 4, nthS B13 5, nthS B13 6, nthS B13 7, nthS B13 8] := by kernel_rfl
def rSDI : List V → Hp → VK → Prop := fun xs H Q => ∃ (a : Addr) (kvs : List (Key × V)) (ks : List Int), xs = [.ref a] ∧ Rd H a (.dK kvs) ∧ kvs.map (·.1) = ks.map Sum.inl ∧ ks.length < 64 ∧
    ∀ (ys : List Int) (p : Addr), ys.Perm ks → ys.Pairwise (· ≤ ·) → H p = none → Q (.ref p) (upd H p (.lst (ys.map V.int)))
def rTup (K : PySem.W.Frag) : List V → Hp → VK → Prop := fun xs H Q => ∃ p ys, xs = [.ref p] ∧ ((SqL K H p ys ∧ ∀ l, H l = none → Q (.ref l) (upd H l (.tup ys))) ∨ (SqT K H p ys ∧ Q (.ref p) H))
def teO (K : PySem.W.Frag) : TE := tLc (iList K (tCB (rSortD K) (tCons (tLockE (tLc (iKeys (tVar 5)) (gName 9) tYes (tTup (tCons (tDGet (tVar 3) (tDGet (tVar 5) (tVar 9))) (tCons (tDGet (tVar 5) (tVar 9)) tNil))) [9])) tNil))) (gTup K 2 (gCons (gName 8) (gCons (gName 6) gNil))) tYes (tVar 6) [8, 6]
def teN (K : PySem.W.Frag) : TE := tCB (rDictK K) (tCons (tLc (iEnum K (tCons (tVar 7) tNil)) (gTup K 2 (gCons (gName 11) (gCons (gName 6) gNil))) tYes (tTup (tCons (tDGet (tVar 4) (tVar 6)) (tCons (tVar 11) tNil))) [11, 6]) tNil)
def teG (K : PySem.W.Frag) : TE := tLc (iEnum K (tCons (tVar 7) tNil)) (gTup K 2 (gCons (gName 11) (gCons (gName 6) gNil))) (tTest (tOp (rIn K false) (tVar 6) (tVar 2))) (tVar 11) [11, 6]
theorem b13_0 {k : Nat} (hr : Room k (X13 w K mg base fa cdv A outer s0 H0 E).A) (m : Fre mg) {f1 : Addr} {d1 : FuncData} (m1 : mg d_11.name = some (.ref f1)) (F1 : Fun K d_11.name d_11.name (topS d_11.at_) f1 d1) (b1 : Binds K d1 d_11.pars []) :
    PS (X13 w K mg base fa cdv A outer s0 H0 E) (nthS B13 0) (tAsg (tCall spFR [] E (tCons (tVar 1) (tCons (tVar 0) tNil))) (gName 3)) := by
  let X := X13 w K mg base fa cdv A outer s0 H0 E
  have tk : L2N.Takes X fun cls d _ H => E cls d H := L2N.takes_of (X := X) rfl rfl rfl rfl
  have px : Passes (L2N.CX X.prog X.w) X E := L2N.passes_call tk fun _ _ _ _ h => h
  have c1 : FnOk X.prog X.w X.K X.mg X.base (L2N.CX X.prog X.w) 0 f1 d1 d_11.pars spFR := fr_ok F1 m
  exact ps_set (X := X) (i := 3) n13 rfl (by first | exact .inl rfl | exact .inr rfl) (pe_call (X := X) c1 (hr.mono (Nat.zero_le _)) (by show (defScope (topS d_13.at_)).names.lookup _ = _; kernel_rfl) m1 F1.kp b1 .nil px (pa_cons (pv (X := X) 1) (pa_cons (pv (X := X) 0) pa_nil))) rfl
theorem b13_1 {k : Nat} (hr : Room k (X13 w K mg base fa cdv A outer s0 H0 E).A) (m : Fre mg) {f2 : Addr} {d2 : FuncData} (m2 : mg d_12.name = some (.ref f2)) (F2 : Fun K d_12.name d_12.name (topS d_12.at_) f2 d2) (b2 : Binds K d2 d_12.pars []) :
    PS (X13 w K mg base fa cdv A outer s0 H0 E) (nthS B13 1) (tAsg (tCall spCL [] E (tCons (tVar 1) (tCons (tVar 0) (tCons (tVar 2) (tCons (tCB rSDI (tCons (tVar 3) tNil)) tNil))))) (gName 4)) := by
  let X := X13 w K mg base fa cdv A outer s0 H0 E
  have tk : L2N.Takes X fun cls d _ H => E cls d H := L2N.takes_of (X := X) rfl rfl rfl rfl
  have px : Passes (L2N.CX X.prog X.w) X E := L2N.passes_call tk fun _ _ _ _ h => h
  have c2 : FnOk X.prog X.w X.K X.mg X.base (L2N.CX X.prog X.w) 0 f2 d2 d_12.pars spCL := cl_ok F2 m
  exact ps_set (X := X) (i := 4) n13 rfl (by first | exact .inl rfl | exact .inr rfl) (pe_call (X := X) c2 (hr.mono (Nat.zero_le _)) (by show (defScope (topS d_13.at_)).names.lookup _ = _; kernel_rfl) m2 F2.kp b2 .nil px (pa_cons (pv (X := X) 1) (pa_cons (pv (X := X) 0) (pa_cons (pv (X := X) 2) (pa_cons (pe_callB (X := X) (call_sortedDI rfl) (by show (defScope (topS d_13.at_)).names.lookup _ = _; kernel_rfl) m.sorted (by decide +kernel) (pa_cons (pv 3) pa_nil)) pa_nil))))) rfl
theorem b13_2 : PS (X13 w K mg base fa cdv A outer s0 H0 E) (nthS B13 2) (tAsg tDNewK (gName 5)) :=
  ps_set (X := X13 w K mg base fa cdv A outer s0 H0 E) (i := 5) n13 rfl (by first | exact .inl rfl | exact .inr rfl) pe_dnewK rfl
theorem b13_3 (hu : (X13 w K mg base fa cdv A outer s0 H0 E).A.units + 100 < cLine) (m : Fre mg) : PS (X13 w K mg base fa cdv A outer s0 H0 E) (nthS B13 3) (tFor (iList K (tCB rSDI (tCons (tVar 3) tNil))) (gName 6) hdR13) := by
  let X := X13 w K mg base fa cdv A outer s0 H0 E
  exact ps_for (X := X) (passes_of rfl) rfl (pi_list (pe_callB (X := X) (call_sortedDI rfl) (by show (defScope (topS d_13.at_)).names.lookup _ = _; kernel_rfl) m.sorted (by decide +kernel) (pa_cons (pv 3) pa_nil))) (pg_name (X := X) (i := 6) n13 rfl (by first | exact .inl rfl | exact .inr rfl)) (hd_ps hu)
theorem b13_4 (hu : (X13 w K mg base fa cdv A outer s0 H0 E).A.units + 100 < cLine) (m : Fre mg) : PS (X13 w K mg base fa cdv A outer s0 H0 E) (nthS B13 4) (tAsg (teO K) (gName 7)) := by
  let X := X13 w K mg base fa cdv A outer s0 H0 E
  have hu1 : X.A.units + 1 < cLine := by have : X.A.units + 100 < cLine := hu; omega
  have hu11 : X.A.units + 11 < cLine := by have : X.A.units + 100 < cLine := hu; omega
  exact ps_set (X := X) (i := 7) n13 rfl (by first | exact .inl rfl | exact .inr rfl) (pe_lc (X := X) (own := [("row", 8), ("here", 6)]) rfl n13 (pi_list (pe_callB (cr_sortD hu11) (by show (defScope (topS d_13.at_)).names.lookup _ = _; kernel_rfl) m.sorted (by decide +kernel) (pa_cons (pe_lock (pe_lc (X := X) (own := [("number", 9)]) rfl n13 (pi_keys (X := X) (pv 5)) (blk13 ⟨rfl, by decide +kernel, by decide +kernel, by decide +kernel, by decide +kernel⟩) (fun _ _ _ _ _ => pg_name (i := 9) n13 rfl (.inl rfl)) (fun _ _ _ _ _ => pts_nil) (fun _ _ _ _ _ => pe_tup (pa_cons (pe_dget hu1 (pv 3) (pe_dget hu1 (pv 5) (pv 9) (fun _ _ => rfl)) (fun _ _ => rfl)) (pa_cons (pe_dget hu1 (pv 5) (pv 9) (fun _ _ => rfl)) pa_nil))))) pa_nil))) (blk13 ⟨rfl, by decide +kernel, by decide +kernel, by decide +kernel, by decide +kernel⟩) (fun s H C cl fp => show PG (Cx.blk X s H _ (compEnvC _ cl C X.env) fp) _ (gTup X.K 2 (gCons (gName 8) (gCons (gName 6) gNil))) from pg_tup (n := 2) (X := Cx.blk X s H _ (compEnvC _ cl C X.env) fp) rfl (pgs_cons (pg_name (X := Cx.blk X s H _ (compEnvC _ cl C X.env) fp) (i := 8) n13 rfl (.inl rfl) (.inr rfl)) (pgs_cons (pg_name (X := Cx.blk X s H _ (compEnvC _ cl C X.env) fp) (i := 6) n13 rfl (.inl rfl) (.inr rfl)) pgs_nil))) (fun _ _ _ _ _ => pts_nil) (fun _ _ _ _ _ => pv 6)) rfl
theorem b13_5 (hu : (X13 w K mg base fa cdv A outer s0 H0 E).A.units + 100 < cLine) (m : Fre mg) : PS (X13 w K mg base fa cdv A outer s0 H0 E) (nthS B13 5) (tAsg (teN K) (gName 10)) := by
  let X := X13 w K mg base fa cdv A outer s0 H0 E
  have hu1 : X.A.units + 1 < cLine := by have : X.A.units + 100 < cLine := hu; omega
  exact ps_set (X := X) (i := 10) n13 rfl (by first | exact .inl rfl | exact .inr rfl) (pe_callTy (X := X) (cr_dictK rfl) (by show (defScope (topS d_13.at_)).names.lookup _ = _; kernel_rfl) m.dict (by decide +kernel) (pa_cons (pe_lc (X := X) (own := [("at", 11), ("here", 6)]) rfl n13 (pi_enum (X := X) (by show (defScope (topS d_13.at_)).names.lookup _ = _; kernel_rfl) m.enum (pa_cons (pv (X := X) 7) pa_nil)) (blk13 ⟨rfl, by decide +kernel, by decide +kernel, by decide +kernel, by decide +kernel⟩) (fun s H C cl fp => show PG (Cx.blk X s H _ (compEnvC _ cl C X.env) fp) _ (gTup X.K 2 (gCons (gName 11) (gCons (gName 6) gNil))) from pg_tup (n := 2) (X := Cx.blk X s H _ (compEnvC _ cl C X.env) fp) rfl (pgs_cons (pg_name (X := Cx.blk X s H _ (compEnvC _ cl C X.env) fp) (i := 11) n13 rfl (.inl rfl) (.inr rfl)) (pgs_cons (pg_name (X := Cx.blk X s H _ (compEnvC _ cl C X.env) fp) (i := 6) n13 rfl (.inl rfl) (.inr rfl)) pgs_nil))) (fun _ _ _ _ _ => pts_nil) (fun _ _ _ _ _ => pe_tup (pa_cons (pe_dget hu1 (pv 4) (pv 6) (fun _ _ => rfl)) (pa_cons (pv 11) pa_nil)))) pa_nil)) rfl
theorem b13_6 : PS (X13 w K mg base fa cdv A outer s0 H0 E) (nthS B13 6) (tAsg (tLst tNil) (gName 12)) :=
  ps_set (X := X13 w K mg base fa cdv A outer s0 H0 E) (i := 12) n13 rfl (by first | exact .inl rfl | exact .inr rfl) (pe_lst pa_nil) rfl
theorem b13_7 (hu : (X13 w K mg base fa cdv A outer s0 H0 E).A.units + 100 < cLine) (m : Fre mg) : PS (X13 w K mg base fa cdv A outer s0 H0 E) (nthS B13 7) (tFor (iList K (tVar 7)) (gName 6) fx13) := by
  let X := X13 w K mg base fa cdv A outer s0 H0 E
  exact ps_for (X := X) (passes_of rfl) rfl (pi_list (pv (X := X) 7)) (pg_name (X := X) (i := 6) n13 rfl (by first | exact .inl rfl | exact .inr rfl)) (fx_ps hu m)
theorem b13_8 (m : Fre mg) : PS (X13 w K mg base fa cdv A outer s0 H0 E) (nthS B13 8) (tRet (tTup (tCons (tVar 0) (tCons (tCB (rTup K) (tCons (tVar 12) tNil)) (tCons (tCB (rTup K) (tCons (teG K) tNil)) tNil))))) := by
  let X := X13 w K mg base fa cdv A outer s0 H0 E
  exact ps_ret (pe_tup (pa_cons (pv (X := X) 0) (pa_cons (pe_callTy (X := X) call_tuple_of (by show (defScope (topS d_13.at_)).names.lookup _ = _; kernel_rfl) m.tuple (by decide +kernel) (pa_cons (pv 12) pa_nil)) (pa_cons (pe_callTy (X := X) call_tuple_of (by show (defScope (topS d_13.at_)).names.lookup _ = _; kernel_rfl) m.tuple (by decide +kernel) (pa_cons (pe_lc (X := X) (own := [("at", 11), ("here", 6)]) rfl n13 (pi_enum (X := X) (by show (defScope (topS d_13.at_)).names.lookup _ = _; kernel_rfl) m.enum (pa_cons (pv (X := X) 7) pa_nil)) (blk13 ⟨rfl, by decide +kernel, by decide +kernel, by decide +kernel, by decide +kernel⟩) (fun s H C cl fp => show PG (Cx.blk X s H _ (compEnvC _ cl C X.env) fp) _ (gTup X.K 2 (gCons (gName 11) (gCons (gName 6) gNil))) from pg_tup (n := 2) (X := Cx.blk X s H _ (compEnvC _ cl C X.env) fp) rfl (pgs_cons (pg_name (X := Cx.blk X s H _ (compEnvC _ cl C X.env) fp) (i := 11) n13 rfl (.inl rfl) (.inr rfl)) (pgs_cons (pg_name (X := Cx.blk X s H _ (compEnvC _ cl C X.env) fp) (i := 6) n13 rfl (.inl rfl) (.inr rfl)) pgs_nil))) (fun _ _ _ _ _ => pts_one (pt_cmpR op_in_seq (pv 6) (pv 2) rfl)) (fun _ _ _ _ _ => pv 11)) pa_nil)) pa_nil))))
end
end Nk
end
section
set_option Elab.async false
set_option linter.all false
set_option maxRecDepth 100000
set_option maxHeartbeats 1000000
/-! least_of_table at the one input: its body, whole -/
namespace Nk
open PySem PySem.Spec PyProof.Rows L2 Evl
theorem FD.ex {two : Bool} {H H' : Hp} {f : Addr} (x : FD two H f) (e : Ex H H') : FD two H' f := by
  obtain ⟨z, t, h1, h2, h3, h4⟩ := x
  refine ⟨z, t, e _ _ h1, e _ _ h2, fun q => e _ _ (h3 q), fun q => ?_⟩
  obtain ⟨y, q, r, e', a1, a2, a3, a4, a5⟩ := h4 q
  exact ⟨y, q, r, e', e _ _ a1, e _ _ a2, e _ _ a3, e _ _ a4, e _ _ a5⟩
/-- sorted(rows) -/
theorem el_sorted {σ : L2.St} {H : Hp} {rw : Addr} {i : Nat} (h : σ[i]? = some (some (.ref rw))) (F : FD true H rw) : EvL (tCB rSDI (tCons (tVar i) tNil)) σ H [.int 0, .int 1] := fun H1 e1 Q q => by
  obtain ⟨kvs, hr, hk⟩ := (F.ex e1).keys
  refine ev_cb1.mpr ⟨.ref rw, h, rw, kvs, _, rfl, hr, hk, by decide, fun ys p hp hs np => ?_⟩
  rw [sorted_ks (two := true) hp hs]
  exact q p _ np (Ex.new np) upd_same
section
variable {w : World} {K : PySem.W.Frag} {mg : Str → Option Value} {base : Heap} {fa : Addr} {cdv : Value} {A : Around} {outer : List PySem.Env} {s0 : Shared} {H0 : Hp} {E : XK}
theorem lt_body {k : Nat} (hr : Room k (X13 w K mg base fa cdv A outer s0 H0 E).A) (m : Fre mg) {f1 f2 : Addr} {d1 d2 : FuncData} (m1 : mg d_11.name = some (.ref f1)) (F1 : Fun K d_11.name d_11.name (topS d_11.at_) f1 d1) (b1 : Binds K d1 d_11.pars [])
    (m2 : mg d_12.name = some (.ref f2)) (F2 : Fun K d_12.name d_12.name (topS d_12.at_) f2 d2) (b2 : Binds K d2 d_12.pars []) {vs : List V} {Q : VK} {H : Hp} (h : spLT vs H Q E) :
    ∃ t, PSs (X13 w K mg base fa cdv A outer s0 H0 E) (defBody (topS d_13.at_)) t ∧ t { nx := fun _ H' => Q .non H', rt := Q } (L2.start d_13.N vs) H := by
  have hu : (X13 w K mg base fa cdv A outer s0 H0 E).A.units + 100 < cLine := by have := hr.un; omega
  obtain ⟨t, gd, rfl, T, hgd, hQ⟩ := h
  refine ⟨_, (show defBody (topS d_13.at_) = _ from B13_eq) ▸ pss_cons (b13_0 hr m m1 F1 b1) (pss_cons (b13_1 hr m m2 F2 b2) (pss_cons b13_2 (pss_cons (b13_3 hu m) (pss_cons (b13_4 hu m) (pss_cons (b13_5 hu m) (pss_cons b13_6 (pss_cons (b13_7 hu m) (pss_one (b13_8 m))))))))), ?_⟩
  -- rows = first_rows(table, stands)
  refine ⟨.ref t, rfl, .int 2, rfl, t, rfl, T, fun rw H1 nrw F1 k1 => ?_⟩
  have e1 : Ex H H1 := fun b o hb => k1 _ _ (ne_of_none hb nrw) hb
  -- found = classes_of(..)
  refine ⟨.ref t, rfl, .int 2, rfl, .ref gd, rfl, el_sorted (i := 3) rfl F1 H1 (Ex.refl _) _ fun hl H2 nhl e2 hhl => ⟨t, gd, hl, rfl, tab_ex T (e1.trans e2), (e1.trans e2) _ _ hgd, hhl, fun fd H3 e3 C => ?_⟩⟩
  have F3 := F1.ex (e2.trans e3)
  have T3 := tab_ex T ((e1.trans e2).trans e3)
  have g3 := ((e1.trans e2).trans e3) _ _ hgd
  have e03 : Ex H H3 := (e1.trans e2).trans e3
  -- heads = {}
  refine fun hd nhd => ?_
  -- the first for
  refine el_sorted (i := 3) rfl (F3.ex (Ex.new nhd)) _ (Ex.refl _) _ fun l H4 nl e4 hl4 => ⟨l, rfl, ⟨_, sq_of hl4⟩, ?_⟩
  have lhd : l ≠ hd := fun z => by rw [z, upd_same] at nl; cases nl
  refine for_list (xs := [.int 0, .int 1]) (fun j σ H' => ∃ x6, σ = s13 t gd rw fd (some (.ref hd)) x6 none none none none none none none none none ∧ Ex H3 H' ∧ H' l = some (.lst [.int 0, .int 1]) ∧ H' hd = some (.dK (hdF j))) ⟨none, rfl, fun b o hb => e4 _ _ (Ex.new nhd _ _ hb), hl4, e4 _ _ upd_same⟩ (fun j σ H' _ q => ?_) (fun j x σ H' hx q => ?_) (fun σ H5 q => ?_)
  · obtain ⟨_, _, _, a, _⟩ := q
    exact sq_of a
  · obtain ⟨x6, rfl, a, b, c⟩ := q
    obtain ⟨rfl, hj⟩ := hl_get hx
    exact ⟨t, gd, rw, fd, hd, j, none, none, none, none, none, none, none, none, none, rfl, a _ _ C, c, hj, fun H'' kb hh => ⟨some (.int (j : Int)), rfl, fun u o hu => kb _ _ (ne_of_none hu nhd) (a _ _ hu), kb _ _ lhd b, hh⟩⟩
  obtain ⟨x6, rfl, e5, _, hhd⟩ := q
  -- order
  refine q_asgP (ord_ep (F3.ex e5) hhd) fun v H6 e6 ⟨o, ev, ho⟩ => ?_
  subst ev
  -- numbers
  refine q_asgP (num_ep (show CD H6 fd from e6 _ _ (e5 _ _ C)) ho) fun v H7 e7 ⟨nb, ev, hnb⟩ => ?_
  subst ev
  have e37 : Ex H3 H7 := (e5.trans e6).trans e7
  -- fresh = []
  refine q_asgL (el_lst (vs := []) ea_nil (by decide)) fun fr H8 nfr e8 hfr => ?_
  refine ⟨.ref o, rfl, o, rfl, ⟨[.int 0, .int 1], sq_of (e8 _ _ (e7 _ _ ho))⟩, ?_⟩
  refine for_list (xs := [.int 0, .int 1]) (fun j σ H' => ∃ x6 x13, σ = s13 t gd rw fd (some (.ref hd)) x6 (some (.ref o)) none none (some (.ref nb)) none (some (.ref fr)) x13 none none ∧ Ex H7 H' ∧ FR j H' fr) ⟨x6, none, rfl, e8, ⟨fun _ => 0, fun _ _ => 0, hfr, fun h hh => absurd hh (by omega), fun h s hh => absurd hh (by omega)⟩⟩ (fun j σ H' _ q => ?_) (fun j x σ H' hx q => ?_) (fun σ H9 q => ?_)
  · obtain ⟨_, _, _, a, _⟩ := q
    exact sq_of (a _ _ (e7 _ _ ho))
  · obtain ⟨x6, x13, rfl, a, b⟩ := q
    obtain ⟨rfl, hj⟩ := hl_get hx
    have b0 := b
    obtain ⟨r, aa, f1, _, _⟩ := b0
    have e3' : Ex H3 H' := e37.trans a
    exact ⟨t, gd, rw, fd, hd, o, nb, fr, j, _, none, none, none, x13, none, none, rfl, tab_ex T3 e3', e3' _ _ C, a _ _ (e7 _ _ ho), a _ _ hnb, f1, by rw [List.length_take]; show min j 2 ≤ 500; omega, hj,
      fun x13 q u0 u1 H'' ee hq h0 h1 => ⟨some (.int (j : Int)), x13, rfl, Ex.mut (a.trans ee) nfr, FR.put b hj ee f1 hq h0 h1⟩⟩
  obtain ⟨x6, x13, rfl, e9, r, aa, f1, f2, f3⟩ := q
  have e39 : Ex H3 H9 := e37.trans e9
  -- the return
  refine ⟨.int 2, rfl, ?_⟩
  refine ev_cb1.mpr ⟨.ref fr, rfl, fr, _, rfl, .inl ⟨sq_of f1, fun tb ntb => ?_⟩⟩
  refine ev_cb1.mpr (good_ep (K := K) (Ex.new ntb _ _ (e9 _ _ (e7 _ _ ho))) (Ex.new ntb _ _ (e39 _ _ g3)) _ (Ex.refl _) _ fun v H10 e10 ⟨p, ev, hp⟩ => ⟨p, _, by rw [ev], .inl ⟨sq_of hp, fun g ng => ⟨le_sz (n := 3) (by decide), fun a na => ?_⟩⟩⟩)
  have ea : Ex (upd H9 tb (.tup ([V.ref (r 0), .ref (r 1)].take 2))) (upd (upd H10 g (.tup [.int 0])) a (.tup [.int 2, .ref tb, .ref g])) := (e10.trans (Ex.new ng)).trans (Ex.new na)
  have eb : Ex H9 (upd (upd H10 g (.tup [.int 0])) a (.tup [.int 2, .ref tb, .ref g])) := (Ex.new ntb).trans ea
  exact hQ a _ ((e03.trans e39).trans eb) ⟨tb, g, upd_same, ⟨r, aa, ea _ _ upd_same, fun h hh => eb _ _ (f2 h hh), fun h s hh hs => eb _ _ (f3 h s hh hs)⟩, Ex.new na _ _ upd_same⟩
end
end Nk
end
section
set_option Elab.async false
set_option linter.all false
set_option maxRecDepth 100000
set_option maxHeartbeats 1000000
/-! least_of_table's promise -/
namespace NkH
open PySem PySem.Spec PyProof.Rows L2 Nk Evl
section
variable {a0 : Addr} {M : Addr → Prop} {H : Hp}
theorem rep_int {v : V} {i : Int} (r : Rep a0 M H v (.int i)) : v = .int i := by
  cases r
  rfl
theorem rep_tup {v : V} {ds : List D} (r : Rep a0 M H v (.tup ds)) : ∃ a xs, v = .ref a ∧ H a = some (.tup xs) ∧ Reps a0 M H xs ds := by
  cases r with
  | tup e _ r => exact ⟨_, _, rfl, e, r⟩
theorem reps_1 {vs : List V} {d : D} (r : Reps a0 M H vs [d]) : ∃ v, vs = [v] ∧ Rep a0 M H v d := by
  cases r with
  | cons h t =>
    cases t
    exact ⟨_, rfl, h⟩
theorem reps_2 {vs : List V} {d e : D} (r : Reps a0 M H vs [d, e]) : ∃ v u, vs = [v, u] ∧ Rep a0 M H v d ∧ Rep a0 M H u e := by
  cases r with
  | cons h t =>
    obtain ⟨u, rfl, h2⟩ := reps_1 t
    exact ⟨_, u, rfl, h, h2⟩
theorem reps_3 {vs : List V} {d e f : D} (r : Reps a0 M H vs [d, e, f]) : ∃ v u x, vs = [v, u, x] ∧ Rep a0 M H v d ∧ Rep a0 M H u e ∧ Rep a0 M H x f := by
  cases r with
  | cons h t =>
    obtain ⟨u, x, rfl, h2, h3⟩ := reps_2 t
    exact ⟨_, u, x, rfl, h, h2, h3⟩
def lotT : D := .tup [.tup [.tup [.int 0, .int 1], .tup [.int 1, .int 1]], .tup [.tup [.int 1, .int 1], .tup [.int 1, .int 1]]]
theorem tab_of {v : V} (r : Rep a0 M H v lotT) : ∃ t, v = .ref t ∧ TabR H t := by
  obtain ⟨t, xs, rfl, ht, r⟩ := rep_tup r
  obtain ⟨x0, x1, rfl, r0, r1⟩ := reps_2 r
  obtain ⟨b0, ys0, rfl, h0, r0⟩ := rep_tup r0
  obtain ⟨b1, ys1, rfl, h1, r1⟩ := rep_tup r1
  obtain ⟨x00, x01, rfl, r00, r01⟩ := reps_2 r0
  obtain ⟨x10, x11, rfl, r10, r11⟩ := reps_2 r1
  obtain ⟨c00, zs00, rfl, h00, r00⟩ := rep_tup r00
  obtain ⟨c01, zs01, rfl, h01, r01⟩ := rep_tup r01
  obtain ⟨c10, zs10, rfl, h10, r10⟩ := rep_tup r10
  obtain ⟨c11, zs11, rfl, h11, r11⟩ := rep_tup r11
  obtain ⟨p0, p1, rfl, q0, q1⟩ := reps_2 r00
  obtain ⟨p2, p3, rfl, q2, q3⟩ := reps_2 r01
  obtain ⟨p4, p5, rfl, q4, q5⟩ := reps_2 r10
  obtain ⟨p6, p7, rfl, q6, q7⟩ := reps_2 r11
  rw [rep_int q0, rep_int q1] at h00
  rw [rep_int q2, rep_int q3] at h01
  rw [rep_int q4, rep_int q5] at h10
  rw [rep_int q6, rep_int q7] at h11
  refine ⟨t, rfl, fun h => if h = 0 then b0 else b1, fun h s => if h = 0 then (if s = 0 then c00 else c01) else (if s = 0 then c10 else c11), ht, fun h hh => ?_, fun h s hh hs => ?_⟩
  · rcases two_cases hh with rfl | rfl
    · exact h0
    · exact h1
  · rcases two_cases hh with rfl | rfl <;> rcases two_cases hs with rfl | rfl
    · exact h00
    · exact h01
    · exact h10
    · exact h11
theorem rep_pair {a : Addr} {i j : Int} (h : H a = some (.tup [.int i, .int j])) : Rep a0 M H (.ref a) (.tup [.int i, .int j]) := .tup h (show 2 ≤ line by decide) (.cons (.int _) (.cons (.int _) .nil))
theorem tab_rep {t : Addr} (x : TabR H t) : Rep a0 M H (.ref t) lotT := by
  obtain ⟨r, a, ht, h1, h2⟩ := x
  exact .tup ht (by decide) (.cons (.tup (h1 0 (by omega)) (by decide) (.cons (rep_pair (h2 0 0 (by omega) (by omega))) (.cons (rep_pair (h2 0 1 (by omega) (by omega))) .nil)))
    (.cons (.tup (h1 1 (by omega)) (by decide) (.cons (rep_pair (h2 1 0 (by omega) (by omega))) (.cons (rep_pair (h2 1 1 (by omega) (by omega))) .nil))) .nil))
theorem lot_rep {r : Addr} (x : LotR H r) : Rep a0 M H (.ref r) lotRes := by
  obtain ⟨tb, g, hr, ht, hg⟩ := x
  exact .tup hr (by decide) (.cons (.int _) (.cons (tab_rep ht) (.cons (.tup hg (by decide) (.cons (.int _) .nil)) .nil)))
end
theorem lot_todo : LotTodo := by
  intro w K mg base k fa fd wd hb hm F bd
  have m : Fre mg := ⟨hb _ (by decide +kernel), hb _ (by decide +kernel), hb _ (by decide +kernel), hb _ (by decide +kernel), hb _ (by decide +kernel), hb _ (by decide +kernel), hb _ (by decide +kernel), hb _ (by decide +kernel)⟩
  obtain ⟨f1, d1, m1, F1, b1⟩ := wd.fns 11 d_11 rfl
  obtain ⟨f2, d2, m2, F2, b2⟩ := wd.fns 12 d_12 rfl
  have S := (Dd.scope (d := d_13) (by kernel_rfl)).1
  have G : FnOk PP w K mg base (L2N.CX PP w) (k + 1) fa fd d_13.pars spLT := okN F S (fun vs H Q E ⟨t, gd, e, _⟩ => by rw [e]; rfl) fun cdv A outer s H vs Q E hr h => lt_body hr m m1 F1 b1 m2 F2 b2 h
  refine FnOk.imp G fun vs H Q E ⟨hl, a0, M, st, ds, hs, r, q⟩ => ?_
  have q : Res (tlK K) (clK K) E a0 M H (lotP ds st) fun d H' _ => ∀ v, Rep a0 M H' v d → Q v H' := q
  unfold lotP at q
  split at q
  case isFalse => exact q.elim
  case isTrue hh =>
    obtain rfl := sames_eq _ _ hh
    obtain ⟨v0, v1, v2, rfl, r0, r1, r2⟩ := reps_3 r
    rw [rep_int r0]
    obtain ⟨t, rfl, T⟩ := tab_of r1
    obtain ⟨gd, zs, rfl, hg, r2⟩ := rep_tup r2
    obtain ⟨z, rfl, r3⟩ := reps_1 r2
    rw [rep_int r3] at hg
    refine ⟨t, gd, rfl, T, hg, fun r H' e L => ?_⟩
    exact q H' (fun b o ho _ _ => e _ _ ho) ⟨e _ _ hs.src, hs.m0, fun b hb => (hs.md b hb).imp fun xs z => e _ _ z, hs.tabs.ext e⟩ _ (lot_rep L)
end NkH
end
section
set_option Elab.async false
set_option linter.all false
set_option maxRecDepth 100000
set_option maxHeartbeats 0
/-! the row's statement, given the rest -/
namespace NkH
open PySem PySem.Spec PyProof.Rows L2 Nk
theorem tabs_of {K : PySem.W.Frag} {H : Hp} (h : ∀ p ∈ tf.map (He.cT K), H p.2 = some (.tbl #[])) : LamX.Tabs (tlK K) H := fun p hp => by
  rcases List.mem_cons.mp hp with rfl | hp
  · exact LamX.TabS.nil (h _ (by simp [tf]))
  · have := List.mem_singleton.mp hp
    subst this
    exact LamX.TabS.nil (h _ (by simp [tf]))
end NkH
open PySem PySem.W PySem.Calls PyProof.Rows
theorem holds_if (an : NkH.AnsTodo) (pr : NkH.PrimTodo) (math : NkH.MathTodo 170) : PySem.Challenge.rw_nestkinds_k48_whole_picks_and_plans.Holds := by
  w_on; o_law
  refine HandSHeadRun.head_any (r := OpenLaw.row PySem.Challenge.rw_nestkinds_k48_whole_picks_and_plans) (q := view (OpenLaw.row PySem.Challenge.rw_nestkinds_k48_whole_picks_and_plans).prog [109]) (H := NkH.hk) (ob := NkH.ob) (M := 8000) (loose := NkH.loose) (d := HandSHeadRun.topDef (OpenLaw.row PySem.Challenge.rw_nestkinds_k48_whole_picks_and_plans).prog 109) (kwd := []) NkH.ob_eq
    (by kernel_rfl) (fun s => by kernel_rfl) NkH.run (by kernel_rfl) (by kernel_rfl) (by kernel_rfl) (by rfl) (by first | assumption | decide +kernel) (by decide +kernel) ⟨rfl, rfl, rfl, rfl, rfl, by decide +kernel⟩ ?hw ?hc
  case hw => w_witness2
  case hc =>
    refine LamX.walk_ofTsE (l := PySem.Challenge.rw_nestkinds_k48_whole_picks_and_plans) (n := 63) (k := 173) (x := "_law_script") (CX := fun w => L2N.CX NkH.PP w) rfl (by decide) (by kernel_rfl) ⟨rfl, by decide, by decide⟩ ?F (fun w H s e s' z => by obtain ⟨_, _, _, _, _, _, _, _, _, _, _, _, z⟩ := z; exact z)
    intro w mg fa h Y G hmg0
    obtain ⟨K, KX, c, hw⟩ := Y
    have hmg : mg ("law" : PySem.Str) = some (.ref fa) := by
      have e : (HandSHeadRun.topDef (OpenLaw.row PySem.Challenge.rw_nestkinds_k48_whole_picks_and_plans).prog 109).name = ("law" : PySem.Str) := by kernel_rfl
      rw [← e]
      exact hmg0
    refine ⟨K, KX, ?_⟩
    have wd : Nk.Wd NkH.PP w K mg := NkH.wd_of KX G c
    obtain ⟨fa', fd, hm', F, hb⟩ := wd.fns 80 Nk.d_80 rfl
    have hm2 : mg ("law" : PySem.Str) = some (.ref fa') := hm'
    rw [hmg] at hm2
    cases hm2
    refine ⟨fd, NkH.tf.map (He.cT K), NkH.spLaw K, ?_, ?_, ?_, ?_, ?_, ?_⟩
    · intro p hp
      obtain ⟨q, hq, rfl⟩ := List.mem_map.mp hp
      exact c.empty q hq
    · intro p hp
      obtain ⟨q, hq, rfl⟩ := List.mem_map.mp hp
      exact c.out q hq
    · intro p hp
      obtain ⟨q, hq, rfl⟩ := List.mem_map.mp hp
      exact PySem.W.codeHd_of_K KX (c.hd q hq)
    · intro s u
      obtain ⟨oc, od, kV, doc, pm, an', cdv, ct, osl, e, _, _⟩ := F.ex
      rw [e]
      exact PySem.BindsTo.of_eq rfl
    · intro H a ns _ _ ht hS
      exact ⟨a, ns, rfl, hS, NkH.tabs_of ht, fun _ => rfl⟩
    · intro base KB GB tb
      have ra := Nk.ra_all (w := w) (base := base) (NkH.exf_of KX G c hw)
      exact NkH.law_ok (j := 170) wd ra (an w K mg base h KX G c hw KB GB tb) (pr w K mg base wd fun x hx => NkH.says_free KX G c hx) (NkH.says_free KX G c (by decide +kernel)) math hmg F
end
section
set_option Elab.async false
set_option linter.all false
set_option maxRecDepth 100000
set_option maxHeartbeats 1000000
/-! plain mathematics: what is said of the evaluator -/
namespace Nm
open Nk
theorem nd {α : Type} {a b : α} (h : a = b) : a = b := h
@[simp] theorem r_bnd {α β : Type} (a : α) (f : α → M β) : bnd (ret a) f = f a := nd rfl
@[simp] theorem ofO_some {α : Type} (a : α) : ofO (some a) = ret a := nd rfl
@[simp] theorem truth_bl (b : Bool) : truth (.bl b) = ret b := nd rfl
@[simp] theorem bnd_ret {α : Type} (m : M α) : bnd m ret = m := by
  funext s
  unfold bnd
  cases m s <;> rfl
@[simp] theorem b_assoc {α β γ : Type} (m : M α) (f : α → M β) (g : β → M γ) : bnd (bnd m f) g = bnd m fun a => bnd (f a) g := Nk.bnd_assoc m f g
/-! ### the evaluator's equations -/
section
variable {cal : Nat → List D → M D} {ρ : Env}
@[simp] theorem e_cst (d : D) : evE cal (.cst d) ρ = ret d := by rw [evE]
@[simp] theorem e_var (i : Nat) : evE cal (.var i) ρ = ofO (ρ[i]?.bind id) := by rw [evE]
@[simp] theorem e_o1 (o : O1) (a : E) : evE cal (.o1 o a) ρ = bnd (evE cal a ρ) fun x => ofO (op1 o x) := by rw [evE]
@[simp] theorem e_o2 (o : O2) (a b : E) : evE cal (.o2 o a b) ρ = bnd (evE cal a ρ) fun x => bnd (evE cal b ρ) fun y => ofO (op2 o x y) := by rw [evE]
@[simp] theorem e_slice (a : E) (lo hi : Eo) : evE cal (.slice a lo hi) ρ = bnd (evE cal a ρ) fun x => bnd (evEo cal lo ρ) fun l => bnd (evEo cal hi ρ) fun h => ofO (sliceO x l h) := by rw [evE]
@[simp] theorem e_tup (es : Es) : evE cal (.tup es) ρ = bnd (evEs cal es ρ) fun xs => ret (.tup xs) := by rw [evE]
@[simp] theorem e_lst (es : Es) : evE cal (.lst es) ρ = bnd (evEs cal es ρ) fun xs => ret (.lst xs) := by rw [evE]
@[simp] theorem e_and (a b : E) : evE cal (.and a b) ρ = bnd (evE cal a ρ) fun x => bnd (truth x) fun c => cond c (evE cal b ρ) (ret (.bl false)) := by
  rw [evE]; congr
@[simp] theorem e_or (a b : E) : evE cal (.or a b) ρ = bnd (evE cal a ρ) fun x => bnd (truth x) fun c => cond c (ret (.bl true)) (evE cal b ρ) := by
  rw [evE]; congr
@[simp] theorem e_not (a : E) : evE cal (.not a) ρ = bnd (evE cal a ρ) fun x => bnd (truth x) fun c => ret (.bl (!c)) := by rw [evE]
@[simp] theorem e_ite (c a b : E) : evE cal (.ite c a b) ρ = bnd (evE cal c ρ) fun x => bnd (truth x) fun k => cond k (evE cal a ρ) (evE cal b ρ) := by
  rw [evE]; congr
@[simp] theorem e_chain (o p : O2) (a b c : E) : evE cal (.chain o p a b c) ρ = bnd (evE cal a ρ) fun x => bnd (evE cal b ρ) fun y => bnd (ofO (op2 o x y)) fun u => bnd (truth u) fun k => cond k (bnd (evE cal c ρ) fun z => ofO (op2 p y z)) (ret (.bl false)) := by
  rw [evE]; congr
@[simp] theorem e_call (f : Nat) (es : Es) : evE cal (.call f es) ρ = bnd (evEs cal es ρ) fun xs => cal f xs := by rw [evE]
/-- one turn of a comprehension -/
def lcG (cal : Nat → List D → M D) (elt : E) (tg : Tg) (ifs : Es) (own : List Nat) (ρ : Env) : D → M (Option D) := fun x => bnd (ofO (asgTg tg x (wipeE ρ own))) fun ρ' => bnd (evIfs cal ifs ρ') fun b => match b with
      | true => bnd (evE cal elt ρ') fun y => ret (some y)
      | false => ret none
theorem lcG_at (elt : E) (tg : Tg) (ifs : Es) (own : List Nat) (x : D) : lcG cal elt tg ifs own ρ x = bnd (ofO (asgTg tg x (wipeE ρ own))) fun ρ' => bnd (evIfs cal ifs ρ') fun b => cond b (bnd (evE cal elt ρ') fun y => ret (some y)) (ret none) := by
  unfold lcG; congr
@[simp] theorem e_comp (elt : E) (tg : Tg) (it : It) (ifs : Es) (own : List Nat) : evE cal (.comp elt tg it ifs own) ρ = bnd (evIt cal it ρ) fun xs => bnd (lcLoop (lcG cal elt tg ifs own ρ) xs) fun ys => ret (.lst ys) := by rw [evE]; rfl
@[simp] theorem e_ans (b : E) : evE cal (.ans b) ρ = ansM (evE cal b ρ) := by rw [evE]
@[simp] theorem es_nil : evEs cal .nil ρ = ret [] := by rw [evEs]
@[simp] theorem es_cons (e : E) (es : Es) : evEs cal (.cons e es) ρ = bnd (evE cal e ρ) fun x => bnd (evEs cal es ρ) fun xs => ret (x :: xs) := by rw [evEs]
@[simp] theorem ei_nil : evIfs cal .nil ρ = ret true := by rw [evIfs]
@[simp] theorem ei_cons (e : E) (es : Es) : evIfs cal (.cons e es) ρ = bnd (evE cal e ρ) truth := by rw [evIfs]
@[simp] theorem eo_none : evEo cal .none ρ = ret none := by rw [evEo]
def asInt : D → M (Option Int)
  | .int i => ret (some i)
  | _ => stk
@[simp] theorem asInt_int (i : Int) : asInt (.int i) = ret (some i) := nd rfl
@[simp] theorem eo_some (e : E) : evEo cal (.some e) ρ = bnd (evE cal e ρ) asInt := by
  rw [evEo]; congr
@[simp] theorem items_tup (a : List D) : items (.tup a) = ret a := nd rfl
@[simp] theorem items_lst (a : List D) : items (.lst a) = ret a := nd rfl
@[simp] theorem it_seq (e : E) : evIt cal (.seq e) ρ = bnd (evE cal e ρ) items := by rw [evIt]
def asRange : D → M (List D)
  | .int j => if small j ∧ j ≤ line then ret (rangeD j) else stk
  | _ => stk
@[simp] theorem it_range (e : E) : evIt cal (.range e) ρ = bnd (evE cal e ρ) asRange := by
  rw [evIt]; congr
def asEnum : D → M (List D)
  | .tup a => ret (enumD 0 a)
  | _ => stk
@[simp] theorem asEnum_tup (a : List D) : asEnum (.tup a) = ret (enumD 0 a) := nd rfl
@[simp] theorem it_enum (e : E) : evIt cal (.enum e) ρ = bnd (evE cal e ρ) asEnum := by
  rw [evIt]; congr
def asZip : D → D → M (List D)
  | .tup a, .tup b => ret (zipD a b)
  | _, _ => stk
@[simp] theorem asZip_tup (a b : List D) : asZip (.tup a) (.tup b) = ret (zipD a b) := nd rfl
@[simp] theorem it_zip (a b : E) : evIt cal (.zip a b) ρ = bnd (evE cal a ρ) fun x => bnd (evE cal b ρ) fun y => asZip x y := by
  rw [evIt]; congr
@[simp] theorem s_asg (i : Nat) (e : E) : evS cal (.asg i e) ρ = bnd (evE cal e ρ) fun x => bnd (ofO (asgTg (.nm i) x ρ)) fun ρ' => ret (.nx ρ') := by rw [evS]
@[simp] theorem s_asgT (is : List Nat) (e : E) : evS cal (.asgT is e) ρ = bnd (evE cal e ρ) fun x => bnd (ofO (asgTg (.tup is) x ρ)) fun ρ' => ret (.nx ρ') := by rw [evS]
@[simp] theorem s_par (is : List Nat) (es : Es) : evS cal (.par is es) ρ = bnd (evEs cal es ρ) fun xs => bnd (ofO (setAll is xs ρ)) fun ρ' => ret (.nx ρ') := by rw [evS]
@[simp] theorem s_new (i : Nat) : evS cal (.new i) ρ = bnd (ofO (asgTg (.nm i) (.lst []) ρ)) fun ρ' => ret (.nx ρ') := by rw [evS]
@[simp] theorem s_exp (e : E) : evS cal (.exp e) ρ = bnd (evE cal e ρ) fun _ => ret (.nx ρ) := by rw [evS]
@[simp] theorem s_rtn (e : E) : evS cal (.rtn e) ρ = bnd (evE cal e ρ) fun x => ret (.rt x) := by rw [evS]
@[simp] theorem s_ite (c : E) (a b : Ss) : evS cal (.ite c a b) ρ = bnd (evE cal c ρ) fun x => bnd (truth x) fun k => cond k (evSs cal a ρ) (evSs cal b ρ) := by
  rw [evS]; congr
/-- one turn of a for -/
def stF (cal : Nat → List D → M D) (tg : Tg) (b : Ss) : D → Env → M Fl := fun x ρ => bnd (ofO (asgTg tg x ρ)) fun ρ' => evSs cal b ρ'
theorem stF_at (tg : Tg) (b : Ss) (x : D) : stF cal tg b x ρ = bnd (ofO (asgTg tg x ρ)) fun ρ' => evSs cal b ρ' := rfl
@[simp] theorem s_for (tg : Tg) (it : It) (b : Ss) : evS cal (.for_ tg it b) ρ = bnd (evIt cal it ρ) fun xs => forLoop (stF cal tg b) xs ρ := by rw [evS]; rfl
def whC (cal : Nat → List D → M D) (c : E) : Env → M Bool := fun ρ => bnd (evE cal c ρ) truth
def whB (cal : Nat → List D → M D) (b : Ss) : Env → M Fl := fun ρ => evSs cal b ρ
@[simp] theorem s_whl (c : E) (b : Ss) : evS cal (.whl c b) ρ = whlLoop (whC cal c) (whB cal b) WN ρ := by rw [evS]; rfl
@[simp] theorem s_raise (x : Xc) : evS cal (.raise x) ρ = thr x := by rw [evS]
@[simp] theorem ss_nil : evSs cal .nil ρ = ret (.nx ρ) := by rw [evSs]
/-- what follows a statement -/
def thenS (f : Env → M Fl) : Fl → M Fl
  | .nx ρ => f ρ
  | .rt d => ret (.rt d)
@[simp] theorem thenS_nx (f : Env → M Fl) (ρ : Env) : thenS f (.nx ρ) = f ρ := nd rfl
@[simp] theorem thenS_rt (f : Env → M Fl) (d : D) : thenS f (.rt d) = ret (.rt d) := nd rfl
@[simp] theorem ss_cons (s : S) (ss : Ss) : evSs cal (.cons s ss) ρ = bnd (evS cal s ρ) (thenS fun ρ => evSs cal ss ρ) := by
  rw [evSs]; congr
def endD : Fl → M D
  | .nx _ => ret .non
  | .rt d => ret d
@[simp] theorem endD_nx (ρ : Env) : endD (.nx ρ) = ret .non := nd rfl
@[simp] theorem endD_rt (d : D) : endD (.rt d) = ret d := nd rfl
theorem run_at (n : Nat) (b : Ss) (ds : List D) : runB cal n b ds = bnd (evSs cal b (ds.map some ++ List.replicate (n - ds.length) none)) endD := by
  unfold runB; congr
end
/-! ### rows -/
inductive Rw where
  | nil | cons (s : Bool) (i r : Rw)
  deriving DecidableEq
def bI (s : Bool) : D := .int (cond s 1 0)
def Rw.its : Rw → List D
  | .nil => []
  | .cons s i r => .tup [bI s, .tup i.its] :: r.its
def Rw.enc (r : Rw) : D := .tup r.its
def Rw.dp : Rw → Nat
  | .nil => 0
  | .cons _ i r => max (i.dp + 1) r.dp
def Rw.sz : Rw → Nat
  | .nil => 0
  | .cons _ i r => 1 + i.sz + r.sz
def Rw.len : Rw → Nat
  | .nil => 0
  | .cons _ _ r => 1 + r.len
def Rw.app : Rw → Rw → Rw
  | .nil, b => b
  | .cons s i r, b => .cons s i (r.app b)
@[simp] theorem Rw.its_app (a b : Rw) : (a.app b).its = a.its ++ b.its := by
  induction a with
  | nil => rfl
  | cons s i r _ ih => simp [app, its, ih]
@[simp] theorem Rw.its_length (a : Rw) : a.its.length = a.len := by
  induction a with
  | nil => rfl
  | cons s i r _ ih => simp [its, len, ih]; omega
theorem Rw.len_sz (a : Rw) : a.len ≤ a.sz := by
  induction a with
  | nil => exact Nat.le_refl _
  | cons s i r _ ih => simp [len, sz]; omega
@[simp] theorem nosrc_bI (s : Bool) : nosrc (bI s) = true := by cases s <;> rfl
@[simp] theorem nosrcs_its (r : Rw) : nosrcs r.its = true := by
  induction r with
  | nil => rfl
  | cons s i r hi hr => simp [Rw.its, nosrcs, nosrc, hi, hr]
@[simp] theorem nosrc_enc (r : Rw) : nosrc r.enc = true := nosrcs_its r
/-! ### comparisons -/
@[simp] theorem eqO_str (t u : Tag) : eqO (.str t) (.str u) = some (decide (t = u)) := nd rfl
@[simp] theorem eqO_int (i j : Int) : eqO (.int i) (.int j) = some (i == j) := by
  simp [eqO, nosrc, dep, eqv]
@[simp] theorem eqO_bI (i j : Bool) : eqO (bI i) (bI j) = some (i == j) := by cases i <;> cases j <;> rfl
/-! ### what operations give -/
@[simp] theorem isN_non : isN .non = true := nd rfl
@[simp] theorem isN_tup (a : List D) : isN (.tup a) = false := nd rfl
@[simp] theorem isN_lst (a : List D) : isN (.lst a) = false := nd rfl
@[simp] theorem isN_bl (a : Bool) : isN (.bl a) = false := nd rfl
@[simp] theorem isN_int (a : Int) : isN (.int a) = false := nd rfl
@[simp] theorem o_len_t (a : List D) : op1 .len (.tup a) = some (.int a.length) := nd rfl
@[simp] theorem o_len_l (a : List D) : op1 .len (.lst a) = some (.int a.length) := nd rfl
@[simp] theorem o_sum (a : List D) : op1 .sum (.lst a) = (intsD a).map fun l => .int l.sum := nd rfl
@[simp] theorem o_all (a : List D) : op1 .all (.lst a) = (blsD a).map fun l => .bl (l.all id) := nd rfl
theorem o_max {a : List D} {x : Int} {r : List Int} (h : intsD a = some (x :: r)) : op1 .max (.lst a) = some (.int (maxi x r)) := by
  show (match intsD a with | some (x :: r) => _ | _ => _) = _
  rw [h]
@[simp] theorem o_tuple_l (a : List D) : op1 .tuple (.lst a) = some (.tup a) := nd rfl
@[simp] theorem o_tuple_t (a : List D) : op1 .tuple (.tup a) = some (.tup a) := nd rfl
@[simp] theorem o_list_t (a : List D) : op1 .list (.tup a) = some (.lst a) := nd rfl
@[simp] theorem o_neg (i : Int) : op1 .neg (.int i) = some (.int (-i)) := nd rfl
@[simp] theorem o_isnone (d : D) : op1 .isnone d = some (.bl (isN d)) := by cases d <;> rfl
@[simp] theorem o_notnone (d : D) : op1 .notnone d = some (.bl (!isN d)) := by cases d <;> rfl
@[simp] theorem o_rev (a : List D) : op1 .rev (.tup a) = some (.tup a.reverse) := nd rfl
@[simp] theorem o_isint_int (i : Int) : op1 .isint (.int i) = some (.bl true) := nd rfl
@[simp] theorem o_isint_bI (i : Bool) : op1 .isint (bI i) = some (.bl true) := nd rfl
@[simp] theorem o_isbool_int (i : Int) : op1 .isbool (.int i) = some (.bl false) := nd rfl
@[simp] theorem o_isbool_bI (i : Bool) : op1 .isbool (bI i) = some (.bl false) := nd rfl
@[simp] theorem o_istup_t (a : List D) : op1 .istup (.tup a) = some (.bl true) := nd rfl
@[simp] theorem o_isstr_s (a : Tag) : op1 .isstr (.str a) = some (.bl true) := nd rfl
@[simp] theorem o_isbool_b (a : Bool) : op1 .isbool (.bl a) = some (.bl true) := nd rfl
@[simp] theorem p_add (i j : Int) : op2 .add (.int i) (.int j) = some (.int (i + j)) := nd rfl
theorem p_add_t {a b : List D} (h : a.length + b.length ≤ line) : op2 .add (.tup a) (.tup b) = some (.tup (a ++ b)) := if_pos h
theorem p_add_l {a b : List D} (h : a.length + b.length ≤ line) : op2 .add (.lst a) (.lst b) = some (.lst (a ++ b)) := if_pos h
@[simp] theorem p_sub (i j : Int) : op2 .sub (.int i) (.int j) = some (.int (i - j)) := nd rfl
@[simp] theorem p_mul (i j : Int) : op2 .mul (.int i) (.int j) = if small j then some (.int (i * j)) else none := nd rfl
theorem p_mul_t {a : List D} {k : Int} (h : a ≠ [] ∧ 0 ≤ k ∧ k ≤ 100 ∧ a.length ≤ 100) : op2 .mul (.tup a) (.int k) = some (.tup (rep k.toNat a)) := if_pos h
@[simp] theorem p_eq (a b : D) : op2 .eq a b = (eqO a b).map .bl := by cases a <;> rfl
@[simp] theorem p_ne (a b : D) : op2 .ne a b = (eqO a b).map fun x => .bl (!x) := by cases a <;> rfl
@[simp] theorem p_lt (i j : Int) : op2 .lt (.int i) (.int j) = some (.bl (decide (i < j))) := nd rfl
@[simp] theorem p_le (i j : Int) : op2 .le (.int i) (.int j) = some (.bl (decide (i ≤ j))) := nd rfl
@[simp] theorem p_gt (i j : Int) : op2 .gt (.int i) (.int j) = some (.bl (decide (j < i))) := nd rfl
@[simp] theorem p_ge (i j : Int) : op2 .ge (.int i) (.int j) = some (.bl (decide (j ≤ i))) := nd rfl
@[simp] theorem p_in (a b : D) : op2 .isin a b = (inO a b).map .bl := by cases a <;> rfl
@[simp] theorem p_notin (a b : D) : op2 .notin a b = (inO a b).map fun x => .bl (!x) := by cases a <;> rfl
@[simp] theorem p_ix_t (a : List D) (i : Int) : op2 .ix (.tup a) (.int i) = (place a.length i).bind (a[·]?) := nd rfl
@[simp] theorem p_ix_l (a : List D) (i : Int) : op2 .ix (.lst a) (.int i) = (place a.length i).bind (a[·]?) := nd rfl
theorem place_nat {n i : Nat} (h : i < n) : place n (i : Int) = some i := by
  unfold place
  rw [if_pos (by omega), if_pos (by omega)]; simp
@[simp] theorem sl_t (a : List D) (lo hi : Option Int) : sliceO (.tup a) lo hi = some (.tup (cut a lo hi)) := nd rfl
@[simp] theorem sl_l (a : List D) (lo hi : Option Int) : sliceO (.lst a) lo hi = some (.lst (cut a lo hi)) := nd rfl
/-! ### loops -/
theorem for_then {α : Type} {g : D → Env → M Fl} {f : Fl → M α} {v : M α} (P : List D → Env → Prop) {xs : List D} {ρ : Env} (h : P xs ρ) (step : ∀ x xs ρ, P (x :: xs) ρ → ∃ ρ', g x ρ = ret (.nx ρ') ∧ P xs ρ') (fin : ∀ ρ, P [] ρ → f (.nx ρ) = v) : bnd (forLoop g xs ρ) f = v := by
  induction xs generalizing ρ with
  | nil => exact fin ρ h
  | cons x xs ih =>
    obtain ⟨ρ', e, h'⟩ := step x xs ρ h
    rw [forLoop, e, r_bnd]
    exact ih h'
theorem lc_map {g : D → M (Option D)} {h : D → Option D} {xs : List D} (e : ∀ x ∈ xs, g x = ret (h x)) : lcLoop g xs = ret (xs.filterMap h) := by
  induction xs with
  | nil => rfl
  | cons x xs ih =>
    rw [lcLoop, e x List.mem_cons_self, r_bnd, ih fun y hy => e y (List.mem_cons_of_mem _ hy), r_bnd]
    cases hx : h x <;> simp [List.filterMap_cons, hx]
theorem for_row {α : Type} {g : D → Env → M Fl} {f : Fl → M α} {v : M α} (P : Rw → Env → Prop) {r : Rw} {ρ : Env} (h : P r ρ) (step : ∀ s i q ρ, P (.cons s i q) ρ → ∃ ρ', g (.tup [bI s, .tup i.its]) ρ = ret (.nx ρ') ∧ P q ρ') (fin : ∀ ρ, P .nil ρ → f (.nx ρ) = v) : bnd (forLoop g r.its ρ) f = v := by
  induction r generalizing ρ with
  | nil => exact fin ρ h
  | cons s i q _ ih =>
    obtain ⟨ρ', e, h'⟩ := step s i q ρ h
    rw [Rw.its, forLoop, e, r_bnd]
    exact ih h'
/-- what a row's boxes give -/
def Rw.fm (F : Bool → Rw → Option D) : Rw → List D
  | .nil => []
  | .cons s i r => match F s i with
    | some d => d :: r.fm F
    | none => r.fm F
theorem Rw.fm_length (F : Bool → Rw → Option D) (r : Rw) : (r.fm F).length ≤ r.len := by
  induction r with
  | nil => exact Nat.le_refl _
  | cons s i r _ ih =>
    simp only [fm, len]
    cases F s i <;> simp <;> omega
theorem lc_row {g : D → M (Option D)} (F : Bool → Rw → Option D) : ∀ {r : Rw}, (∀ s i, i.dp < r.dp → g (.tup [bI s, i.enc]) = ret (F s i)) → lcLoop g r.its = ret (r.fm F)
  | .nil, _ => rfl
  | .cons s i r, h => by
    have h1 := h s i (by simp [Rw.dp]; omega)
    have h2 := lc_row (g := g) F (r := r) fun s' i' hi => h s' i' (by simp [Rw.dp]; omega)
    show lcLoop g (.tup [bI s, .tup i.its] :: r.its) = _
    rw [lcLoop, show g (.tup [bI s, .tup i.its]) = _ from h1, r_bnd, h2, r_bnd, Rw.fm]
    all_goals (cases F s i <;> rfl)
theorem lc_row' {g : D → M (Option D)} (F : Bool → Rw → Option D) : ∀ {r : Rw}, (∀ s i, i.dp < r.dp → i.sz < r.sz → g (.tup [bI s, i.enc]) = ret (F s i)) → lcLoop g r.its = ret (r.fm F)
  | .nil, _ => rfl
  | .cons s i r, h => by
    have h1 := h s i (by simp [Rw.dp]; omega) (by simp [Rw.sz]; omega)
    have h2 := lc_row' (g := g) F (r := r) fun s' i' hi hs => h s' i' (by simp [Rw.dp]; omega) (by simp [Rw.sz]; omega)
    show lcLoop g (.tup [bI s, .tup i.its] :: r.its) = _
    rw [lcLoop, show g (.tup [bI s, .tup i.its]) = _ from h1, r_bnd, h2, r_bnd, Rw.fm]
    all_goals (cases F s i <;> rfl)
/-! ### tables -/
abbrev Tb := List (List Nat × List Nat)
def nL (l : List Nat) : D := .tup (l.map fun (n : Nat) => .int n)
def Tb.enc (T : Tb) : D := .tup (T.map fun p => .tup [nL p.1, nL p.2])
structure Tv (T : Tb) : Prop where
  pos : 0 < T.length
  ok : ∀ p ∈ T, (p.1.length = T.length ∧ p.2.length = T.length) ∧ (∀ x ∈ p.1, x < T.length) ∧ ∀ x ∈ p.2, x < T.length
def tln (T : Tb) (h : Nat) (s : Bool) : List Nat := cond s (T.getD h ([], [])).2 (T.getD h ([], [])).1
def tg (T : Tb) (h : Nat) (s : Bool) (i : Nat) : Nat := (tln T h s).getD i 0
def rend (T : Tb) : Rw → Nat → Nat
  | .nil, h => h
  | .cons s i r, h => rend T r (tg T h s (rend T i 0))
def trow (T : Tb) (h : Nat) : D := .tup [nL (tln T h false), nL (tln T h true)]
theorem tln_len {T : Tb} (v : Tv T) {h : Nat} (hh : h < T.length) (s : Bool) : (tln T h s).length = T.length ∧ ∀ x ∈ tln T h s, x < T.length := by
  have e : T.getD h ([], []) = T[h] := by simp [List.getD, List.getElem?_eq_getElem hh]
  have := v.ok T[h] (List.getElem_mem hh)
  unfold tln
  rw [e]
  cases s
  · exact ⟨this.1.1, this.2.1⟩
  · exact ⟨this.1.2, this.2.2⟩
theorem tg_lt {T : Tb} (v : Tv T) {h i : Nat} (hh : h < T.length) (s : Bool) (hi : i < T.length) : tg T h s i < T.length := by
  obtain ⟨e, a⟩ := tln_len v hh s
  have hi' : i < (tln T h s).length := by omega
  unfold tg
  rw [List.getD, List.getElem?_eq_getElem hi']
  exact a _ (List.getElem_mem hi')
theorem rend_lt {T : Tb} (v : Tv T) : ∀ (r : Rw) {h : Nat}, h < T.length → rend T r h < T.length
  | .nil, h, hh => hh
  | .cons s i r, h, hh => rend_lt v r (tg_lt v hh s (rend_lt v i v.pos))
theorem ix_T {T : Tb} {h : Nat} (hh : h < T.length) : op2 .ix T.enc (.int h) = some (trow T h) := by
  simp [Tb.enc, place_nat, hh, trow, tln, List.getD, List.getElem?_eq_getElem hh]
theorem ix_row (a b : D) (s : Bool) : op2 .ix (.tup [a, b]) (bI s) = some (cond s b a) := by
  cases s <;> simp [bI, place]
theorem ix_trow (T : Tb) (h : Nat) (s : Bool) : op2 .ix (trow T h) (bI s) = some (nL (tln T h s)) := by
  unfold trow
  rw [ix_row]
  cases s <;> rfl
theorem ix_nL {l : List Nat} {i : Nat} (hi : i < l.length) : op2 .ix (nL l) (.int i) = some (.int (l.getD i 0 : Nat)) := by
  simp [nL, place_nat, hi, List.getD, List.getElem?_eq_getElem hi]
theorem ix_tln {T : Tb} (v : Tv T) {h i : Nat} (hh : h < T.length) (s : Bool) (hi : i < T.length) : op2 .ix (nL (tln T h s)) (.int i) = some (.int (tg T h s i)) := ix_nL (by rw [(tln_len v hh s).1]; exact hi)
/-- kinds -/
structure Kd where
  T : Tb
  good : List Nat
def Kd.enc (K : Kd) : D := .tup [.int 2, K.T.enc, nL K.good]
def Kd.has (K : Kd) (r : Rw) : Bool := K.good.contains (rend K.T r 0)
theorem ints_nL (l : List Nat) : intsD (l.map fun (n : Nat) => D.int n) = some (l.map fun (n : Nat) => (n : Int)) := by
  induction l with
  | nil => rfl
  | cons x l ih => simp [intsD, ih]
theorem in_nL (i : Nat) (l : List Nat) : inO (.int i) (nL l) = some (l.contains i) := by
  simp only [inO, nL, ints_nL, Option.map_some]
  congr 1
  rw [Bool.eq_iff_iff]
  simp
  exact ⟨fun ⟨a, h, e⟩ => by rw [show i = a by omega]; exact h, fun h => ⟨i, h, rfl⟩⟩
end Nm
end
section
set_option Elab.async false
set_option linter.all false
set_option maxRecDepth 100000
set_option maxHeartbeats 1000000
namespace Nm
open Nk
theorem c0 (k : Nat) (x lo hi : D) : callK tab (k + 1) 0 [x, lo, hi] = runB (callK tab k) 3 b_0 [x, lo, hi] := rfl
theorem c54 (k : Nat) (x : D) : callK tab (k + 1) 54 [x] = runB (callK tab k) 4 b_54 [x] := rfl
theorem c3 (k : Nat) (x : D) : callK tab (k + 1) 3 [x] = runB (callK tab k) 3 b_3 [x] := rfl
theorem c55 (k : Nat) (x : D) : callK tab (k + 1) 55 [x] = runB (callK tab k) 3 b_55 [x] := rfl
theorem whole_ev (k : Nat) (i lo hi : Int) : callK tab (k + 1) 0 [.int i, .int lo, .int hi] = ret (.bl (decide (lo ≤ i) && decide (i ≤ hi))) := by
  rw [c0]
  simp [run_at, b_0]
  cases h : decide (lo ≤ i) <;> simp
theorem size_ev : ∀ (k : Nat) (r : Rw), r.dp < k → callK tab k 54 [.tup r.its] = ret (.int r.sz)
  | 0, r, h => absurd h (Nat.not_lt_zero _)
  | k + 1, r, h => by
    rw [c54]
    simp [run_at, b_54, asgTg]
    refine for_row (fun q ρ => ∃ (t : Int) (a b : Option D), q.dp ≤ k ∧ t + q.sz = r.sz ∧ ρ = [some r.enc, some (.int t), a, b]) ⟨0, none, none, by omega, by omega, rfl⟩ ?_ ?_
    · rintro s i q ρ ⟨t, a, b, h1, h2, rfl⟩
      simp only [Rw.dp, Rw.sz] at h1 h2
      have ih := size_ev k i (by omega)
      exact ⟨_, by simp [stF_at, asgTg, setAll, ih] <;> rfl, t + 1 + i.sz, _, _, by omega, by omega, rfl⟩
    · rintro ρ ⟨t, a, b, h1, h2, rfl⟩
      simp [Rw.sz] at h2
      simp [h2]
def Rw.szs : Rw → List Int
  | .nil => []
  | .cons _ i r => (1 + i.sz) :: r.szs
def Rw.dps : Rw → List Int
  | .nil => []
  | .cons _ i r => (1 + i.dp) :: r.dps
theorem ints_sz (r : Rw) : intsD (r.fm fun s i => some (.int (1 + i.sz))) = some r.szs := by
  induction r with
  | nil => rfl
  | cons s i r _ ih => simp [Rw.fm, intsD, ih, Rw.szs]
theorem sum_sz (r : Rw) : r.szs.sum = r.sz := by
  induction r with
  | nil => rfl
  | cons s i r _ ih => simp [Rw.szs, ih, Rw.sz]
theorem ints_dp (r : Rw) : intsD (r.fm fun s i => some (.int (1 + i.dp))) = some r.dps := by
  induction r with
  | nil => rfl
  | cons s i r _ ih => simp [Rw.fm, intsD, ih, Rw.dps]
theorem maxi_dp (r : Rw) : ∀ m : Nat, maxi m r.dps = ↑(max m r.dp) := by
  induction r with
  | nil => intro m; simp [Rw.dps, maxi, Rw.dp]
  | cons s i r _ ih =>
    intro m
    simp only [Rw.dps, maxi, Rw.dp]
    split
    · rw [show (1 + (i.dp : Int)) = ((i.dp + 1 : Nat) : Int) by omega, ih]
      congr 1; omega
    · rw [ih]; congr 1; omega
theorem box_ev : ∀ (k : Nat) (r : Rw), r.dp < k → callK tab k 3 [.tup r.its] = ret (.int r.sz)
  | 0, r, h => absurd h (Nat.not_lt_zero _)
  | k + 1, r, h => by
    rw [c3]
    simp [run_at, b_3, asgTg]
    rw [lc_row fun s i => some (.int (1 + i.sz))]
    · simp [ints_sz, sum_sz]
    · intro s i hi
      have ih := box_ev k i (by omega)
      simp [lcG_at, asgTg, setAll, wipeE, Rw.enc, ih]
theorem deep_ev : ∀ (k : Nat) (r : Rw), r.dp < k → r.sz ≤ 9999 → callK tab k 55 [.tup r.its] = ret (.int r.dp)
  | 0, r, h, _ => absurd h (Nat.not_lt_zero _)
  | k + 1, r, h, hz => by
    have hl := r.len_sz
    rw [c55]
    simp [run_at, b_55, asgTg]
    rw [lc_row' fun s i => some (.int (1 + i.dp))]
    · simp
      rw [p_add_l (by have := r.fm_length fun s i => some (.int (1 + i.dp)); simp [line] at *; omega)]
      simp
      rw [o_max (x := 0) (r := r.dps) (by simp [intsD, ints_dp])]
      have := maxi_dp r 0
      simp at this
      simp [this]
    · intro s i hi hs
      have ih := deep_ev k i (by omega) (by omega)
      simp [lcG_at, asgTg, setAll, wipeE, Rw.enc, ih]
theorem end_ev {T : Tb} (v : Tv T) : ∀ (k : Nat) (r : Rw), r.dp < k → callK tab k 9 [T.enc, .tup r.its] = ret (.int (rend T r 0))
  | 0, r, h => absurd h (Nat.not_lt_zero _)
  | k + 1, r, h => by
    rw [show callK tab (k + 1) 9 [T.enc, .tup r.its] = runB (callK tab k) 5 b_9 [T.enc, .tup r.its] from rfl]
    simp [run_at, b_9, asgTg]
    refine for_row (fun q ρ => ∃ (h : Nat) (a b : Option D), h < T.length ∧ q.dp ≤ k ∧ rend T q h = rend T r 0 ∧ ρ = [some T.enc, some r.enc, some (.int h), a, b]) ⟨0, none, none, v.pos, by omega, rfl, rfl⟩ ?_ ?_
    · rintro s i q ρ ⟨t, a, b, ht, h1, h2, rfl⟩
      simp only [Rw.dp, rend] at h1 h2
      have ih := end_ev v k i (by omega)
      have l1 := rend_lt v i v.pos
      exact ⟨_, by simp [stF_at, asgTg, setAll, ih, ix_T ht, ix_trow, ix_tln v ht s l1, -p_ix_t] <;> rfl, tg T t s (rend T i 0), _, _, tg_lt v ht s l1, by omega, h2, rfl⟩
    · rintro ρ ⟨t, a, b, ht, h1, h2, rfl⟩
      simp [rend] at h2
      simp [h2]
theorem lend_ev {T : Tb} (v : Tv T) : ∀ (k : Nat) (r : Rw), r.dp < k → callK tab k 59 [T.enc, .tup r.its] = ret (.int (rend T r 0))
  | 0, r, h => absurd h (Nat.not_lt_zero _)
  | k + 1, r, h => by
    rw [show callK tab (k + 1) 59 [T.enc, .tup r.its] = runB (callK tab k) 5 b_59 [T.enc, .tup r.its] from rfl]
    simp [run_at, b_59, asgTg]
    refine for_row (fun q ρ => ∃ (h : Nat) (a b : Option D), h < T.length ∧ q.dp ≤ k ∧ rend T q h = rend T r 0 ∧ ρ = [some T.enc, some r.enc, some (.int h), a, b]) ⟨0, none, none, v.pos, by omega, rfl, rfl⟩ ?_ ?_
    · rintro s i q ρ ⟨t, a, b, ht, h1, h2, rfl⟩
      simp only [Rw.dp, rend] at h1 h2
      have ih := lend_ev v k i (by omega)
      have l1 := rend_lt v i v.pos
      exact ⟨_, by simp [stF_at, asgTg, setAll, ih, ix_T ht, ix_trow, ix_tln v ht s l1, -p_ix_t] <;> rfl, tg T t s (rend T i 0), _, _, tg_lt v ht s l1, by omega, h2, rfl⟩
    · rintro ρ ⟨t, a, b, ht, h1, h2, rfl⟩
      simp [rend] at h2
      simp [h2]
theorem isof_ev {K : Kd} (v : Tv K.T) (k : Nat) (r : Rw) (h : r.dp < k) : callK tab (k + 1) 10 [K.enc, .tup r.its] = ret (.bl (K.has r)) := by
  rw [show callK tab (k + 1) 10 [K.enc, .tup r.its] = runB (callK tab k) 2 b_10 [K.enc, .tup r.its] from rfl]
  simp [run_at, b_10, Kd.enc, place, end_ev v k r h, in_nL, Kd.has]
theorem lisof_ev {K : Kd} (v : Tv K.T) (k : Nat) (r : Rw) (h : r.dp < k) : callK tab (k + 1) 60 [K.enc, .tup r.its] = ret (.bl (K.has r)) := by
  rw [show callK tab (k + 1) 60 [K.enc, .tup r.its] = runB (callK tab k) 2 b_60 [K.enc, .tup r.its] from rfl]
  simp [run_at, b_60, Kd.enc, place, lend_ev v k r h, in_nL, Kd.has]
def tw (w : Bool) : Rw → Nat
  | .nil => 0
  | .cons s i r => (1 + tw w i) * (if s = w then 2 else 1) + tw w r
theorem twice_ev (w : Bool) : ∀ (k : Nat) (r : Rw), r.dp < k → callK tab k 70 [bI w, .tup r.its] = ret (.int (tw w r))
  | 0, r, h => absurd h (Nat.not_lt_zero _)
  | k + 1, r, h => by
    rw [show callK tab (k + 1) 70 [bI w, .tup r.its] = runB (callK tab k) 5 b_70 [bI w, .tup r.its] from rfl]
    simp [run_at, b_70, asgTg]
    refine for_row (fun q ρ => ∃ (t : Int) (a b : Option D), q.dp ≤ k ∧ t + tw w q = tw w r ∧ ρ = [some (bI w), some r.enc, some (.int t), a, b]) ⟨0, none, none, by omega, by omega, rfl⟩ ?_ ?_
    · rintro s i q ρ ⟨t, a, b, h1, h2, rfl⟩
      simp only [Rw.dp, tw] at h1 h2
      have ih := twice_ev w k i (by omega)
      by_cases e : s = w
      · exact ⟨_, by simp [stF_at, asgTg, setAll, ih, e, small] <;> rfl, t + (1 + tw w i) * 2, _, _, by omega, by simp [e] at h2; omega, rfl⟩
      · have e' : (s == w) = false := beq_false_of_ne e
        exact ⟨_, by simp [stF_at, asgTg, setAll, ih, e', small] <;> rfl, t + (1 + tw w i), _, _, by omega, by simp [e] at h2; omega, rfl⟩
    · rintro ρ ⟨t, a, b, h1, h2, rfl⟩
      simp [tw] at h2
      simp [h2]
def Rw.tws (w : Bool) : Rw → List Int
  | .nil => []
  | .cons s i r => ((1 + tw w i) * (if s = w then 2 else 1)) :: r.tws w
theorem ints_tw (w : Bool) (r : Rw) : intsD (r.fm fun s i => some (.int ((1 + tw w i) * (if s = w then 2 else 1)))) = some (r.tws w) := by
  induction r with
  | nil => rfl
  | cons s i r _ ih => simp only [Rw.fm, intsD, ih, Rw.tws]; rfl
theorem sum_tw (w : Bool) (r : Rw) : (r.tws w).sum = tw w r := by
  induction r with
  | nil => rfl
  | cons s i r _ ih =>
    simp only [Rw.tws, List.sum_cons, ih, tw]
    split <;> simp
theorem dbox_ev (w : Bool) : ∀ (k : Nat) (r : Rw), r.dp < k → callK tab k 29 [bI w, .tup r.its] = ret (.int (tw w r))
  | 0, r, h => absurd h (Nat.not_lt_zero _)
  | k + 1, r, h => by
    rw [show callK tab (k + 1) 29 [bI w, .tup r.its] = runB (callK tab k) 4 b_29 [bI w, .tup r.its] from rfl]
    simp [run_at, b_29]
    rw [lc_row fun s i => some (.int ((1 + tw w i) * (if s = w then 2 else 1)))]
    · simp [ints_tw, sum_tw]
    · intro s i hi
      have ih := dbox_ev w k i (by omega)
      by_cases e : s = w
      · simp [lcG_at, asgTg, setAll, wipeE, Rw.enc, ih, e, small]
      · have e' : (s == w) = false := beq_false_of_ne e
        simp [lcG_at, asgTg, setAll, wipeE, Rw.enc, ih, e, e', small]
end Nm
end
section
set_option Elab.async false
set_option linter.all false
set_option maxRecDepth 100000
set_option maxHeartbeats 1000000
namespace Nm
open Nk
/-! ### steps -/
abbrev Ln := List ((Bool × Nat) × (Bool × Nat))
def prD (p : Bool × Nat) : D := .tup [bI p.1, .int p.2]
def Ln.enc (l : Ln) : D := .tup (l.map fun p => .tup [prD p.1, prD p.2])
def Ln.get (l : Ln) (n : Nat) (s : Bool) : Bool × Nat := cond s (l.getD n ((false, 0), (false, 0))).2 (l.getD n ((false, 0), (false, 0))).1
structure Lv (l : Ln) : Prop where
  pos : 0 < l.length
  top : l.length ≤ 2
  ok : ∀ p ∈ l, p.1.2 < l.length ∧ p.2.2 < l.length
def bL (l : List Bool) : D := .tup (l.map bI)
theorem Ln.get_lt {l : Ln} (v : Lv l) {n : Nat} (h : n < l.length) (s : Bool) : (l.get n s).2 < l.length := by
  have e : l.getD n ((false, 0), (false, 0)) = l[n] := by simp [List.getD, List.getElem?_eq_getElem h]
  have := v.ok l[n] (List.getElem_mem h)
  unfold Ln.get
  rw [e]
  cases s
  · exact this.1
  · exact this.2
theorem ix_Ln {l : Ln} {n : Nat} (h : n < l.length) : op2 .ix l.enc (.int n) = some (.tup [prD (l.get n false), prD (l.get n true)]) := by
  simp [Ln.enc, place_nat, h, Ln.get, List.getD, List.getElem?_eq_getElem h]
theorem ix_bL {l : List Bool} {i : Nat} (hi : i < l.length) : op2 .ix (bL l) (.int i) = some (bI (l.getD i false)) := by
  simp [bL, place_nat, hi, List.getD, List.getElem?_eq_getElem hi]
def nw (a b : List Bool) (s : Bool) (i : Nat) : Bool := (cond s b a).getD i false
def mk (T : Tb) (a b : List Bool) : Rw → Rw
  | .nil => .nil
  | .cons s i r => .cons (nw a b s (rend T i 0)) (mk T a b i) (mk T a b r)
def ab (l : Ln) : Nat → Rw → Rw
  | _, .nil => .nil
  | n, .cons s i r => .cons (l.get n s).1 (ab l (l.get n s).2 i) (ab l n r)
def dr (w : Bool) : Rw → Rw
  | .nil => .nil
  | .cons s i r => if s = w then dr w r else .cons s (dr w i) (dr w r)
def opn (w : Bool) : Rw → Rw
  | .nil => .nil
  | .cons s i r => if s = w then (opn w i).app (opn w r) else .cons s (opn w i) (opn w r)
def wr (w v : Bool) : Rw → Rw
  | .nil => .nil
  | .cons s i r => if s = w then .cons v (.cons s (wr w v i) .nil) (wr w v r) else .cons s (wr w v i) (wr w v r)
def db (w : Bool) : Rw → Rw
  | .nil => .nil
  | .cons s i r => if s = w then .cons s (db w i) (.cons s (db w i) (db w r)) else .cons s (db w i) (db w r)
def tn : Rw → Rw
  | .nil => .nil
  | .cons s i r => (tn r).app (.cons s (tn i) .nil)
def Rw.has (w : Bool) : Rw → Bool
  | .nil => false
  | .cons s _ r => s == w || r.has w
def ol (w : Bool) : Bool → Rw → Rw
  | _, .nil => .nil
  | seen, .cons s i r => if s = w then (if seen then ol w true r else .cons s (ol w false i) (ol w true r)) else .cons s (ol w false i) (ol w seen r)
def orr (w : Bool) : Rw → Rw
  | .nil => .nil
  | .cons s i r => if s = w ∧ r.has w = true then orr w r else .cons s (orr w i) (orr w r)
inductive St where
  | mark (T : Tb) (a b : List Bool) | about (l : Ln) | drop (w : Bool) | open_ (w : Bool) | wrap (w v : Bool) | double (w : Bool) | turn | only (rt w : Bool)
def St.enc : St → D
  | .mark T a b => .tup [.str .mark, T.enc, .tup [bL a, bL b]]
  | .about l => .tup [.str .about, l.enc]
  | .drop w => .tup [.str .drop, bI w]
  | .open_ w => .tup [.str .open_, bI w]
  | .wrap w v => .tup [.str .wrap, bI w, bI v]
  | .double w => .tup [.str .double, bI w]
  | .turn => .tup [.str .turn]
  | .only rt w => .tup [.str .only, .str (cond rt .right .left), bI w]
def St.ok : St → Prop
  | .mark T a b => Tv T ∧ T.length ≤ 3 ∧ a.length = T.length ∧ b.length = T.length
  | .about l => Lv l
  | _ => True
def stp : St → Rw → Rw
  | .mark T a b, r => mk T a b r
  | .about l, r => ab l 0 r
  | .drop w, r => dr w r
  | .open_ w, r => opn w r
  | .wrap w v, r => wr w v r
  | .double w, r => db w r
  | .turn, r => tn r
  | .only rt w, r => cond rt (orr w r) (ol w false r)
/-! sizes -/
@[simp] theorem len_app (a b : Rw) : (a.app b).len = a.len + b.len := by
  induction a with
  | nil => simp [Rw.app, Rw.len]
  | cons s i r _ ih => simp [Rw.app, Rw.len, ih]; omega
@[simp] theorem sz_app (a b : Rw) : (a.app b).sz = a.sz + b.sz := by
  induction a with
  | nil => simp [Rw.app, Rw.sz]
  | cons s i r _ ih => simp [Rw.app, Rw.sz, ih]; omega
@[simp] theorem dp_app (a b : Rw) : (a.app b).dp = max a.dp b.dp := by
  induction a with
  | nil => simp [Rw.app, Rw.dp]
  | cons s i r _ ih => simp [Rw.app, Rw.dp, ih]
theorem app_assoc (a b c : Rw) : (a.app b).app c = a.app (b.app c) := by
  induction a with
  | nil => rfl
  | cons s i r _ ih => simp [Rw.app, ih]
@[simp] theorem app_nil (a : Rw) : a.app .nil = a := by
  induction a with
  | nil => rfl
  | cons s i r _ ih => simp [Rw.app, ih]
theorem sz_mk (T : Tb) (a b : List Bool) (r : Rw) : (mk T a b r).sz = r.sz := by
  induction r with
  | nil => rfl
  | cons s i r hi hr => simp [mk, Rw.sz, hi, hr]
theorem dp_mk (T : Tb) (a b : List Bool) (r : Rw) : (mk T a b r).dp = r.dp := by
  induction r with
  | nil => rfl
  | cons s i r hi hr => simp [mk, Rw.dp, hi, hr]
theorem sz_ab (l : Ln) (r : Rw) : ∀ n, (ab l n r).sz = r.sz := by
  induction r with
  | nil => exact fun _ => rfl
  | cons s i r hi hr => intro n; simp [ab, Rw.sz, hi, hr]
theorem dp_ab (l : Ln) (r : Rw) : ∀ n, (ab l n r).dp = r.dp := by
  induction r with
  | nil => exact fun _ => rfl
  | cons s i r hi hr => intro n; simp [ab, Rw.dp, hi, hr]
theorem sz_dr (w : Bool) (r : Rw) : (dr w r).sz ≤ r.sz := by
  induction r with
  | nil => exact Nat.le_refl _
  | cons s i r hi hr => simp only [dr]; split <;> simp only [Rw.sz] <;> omega
theorem dp_dr (w : Bool) (r : Rw) : (dr w r).dp ≤ r.dp := by
  induction r with
  | nil => exact Nat.le_refl _
  | cons s i r hi hr => simp only [dr]; split <;> simp only [Rw.dp] <;> omega
theorem sz_op (w : Bool) (r : Rw) : (opn w r).sz ≤ r.sz := by
  induction r with
  | nil => exact Nat.le_refl _
  | cons s i r hi hr => simp only [opn]; split <;> simp only [Rw.sz, sz_app] <;> omega
theorem dp_op (w : Bool) (r : Rw) : (opn w r).dp ≤ r.dp := by
  induction r with
  | nil => exact Nat.le_refl _
  | cons s i r hi hr => simp only [opn]; split <;> simp only [Rw.dp, dp_app] <;> omega
theorem sz_wr (w v : Bool) (r : Rw) : (wr w v r).sz ≤ 2 * r.sz := by
  induction r with
  | nil => exact Nat.le_refl _
  | cons s i r hi hr => simp only [wr]; split <;> simp only [Rw.sz] <;> omega
theorem dp_wr (w v : Bool) (r : Rw) : (wr w v r).dp ≤ 2 * r.dp := by
  induction r with
  | nil => exact Nat.le_refl _
  | cons s i r hi hr => simp only [wr]; split <;> simp only [Rw.dp] <;> omega
theorem sz_db (w : Bool) (r : Rw) : (db w r).sz = tw w r := by
  induction r with
  | nil => rfl
  | cons s i r hi hr => simp only [db, tw]; split <;> simp only [Rw.sz] <;> omega
theorem dp_db (w : Bool) (r : Rw) : (db w r).dp = r.dp := by
  induction r with
  | nil => rfl
  | cons s i r hi hr => simp only [db]; split <;> simp only [Rw.dp] <;> omega
theorem tw_sz (w : Bool) (r : Rw) : r.sz ≤ tw w r := by
  induction r with
  | nil => exact Nat.le_refl _
  | cons s i r hi hr => simp only [tw, Rw.sz]; split <;> omega
theorem sz_tn (r : Rw) : (tn r).sz = r.sz := by
  induction r with
  | nil => rfl
  | cons s i r hi hr => simp [tn, Rw.sz, hi, hr]; omega
theorem dp_tn (r : Rw) : (tn r).dp = r.dp := by
  induction r with
  | nil => rfl
  | cons s i r hi hr => simp [tn, Rw.dp, hi, hr]; omega
theorem sz_ol (w : Bool) (r : Rw) : ∀ b, (ol w b r).sz ≤ r.sz := by
  induction r with
  | nil => exact fun _ => Nat.le_refl _
  | cons s i r hi hr =>
    intro b
    have := hi false; have := hr true; have := hr b
    simp only [ol]; split
    · split <;> simp only [Rw.sz] <;> omega
    · simp only [Rw.sz]; omega
theorem dp_ol (w : Bool) (r : Rw) : ∀ b, (ol w b r).dp ≤ r.dp := by
  induction r with
  | nil => exact fun _ => Nat.le_refl _
  | cons s i r hi hr =>
    intro b
    have := hi false; have := hr true; have := hr b
    simp only [ol]; split
    · split <;> simp only [Rw.dp] <;> omega
    · simp only [Rw.dp]; omega
theorem sz_or (w : Bool) (r : Rw) : (orr w r).sz ≤ r.sz := by
  induction r with
  | nil => exact Nat.le_refl _
  | cons s i r hi hr => simp only [orr]; split <;> simp only [Rw.sz] <;> omega
theorem dp_or (w : Bool) (r : Rw) : (orr w r).dp ≤ r.dp := by
  induction r with
  | nil => exact Nat.le_refl _
  | cons s i r hi hr => simp only [orr]; split <;> simp only [Rw.dp] <;> omega
theorem dp_stp (S : St) (r : Rw) : (stp S r).dp ≤ 2 * r.dp := by
  cases S with
  | mark T a b => simp only [stp, dp_mk]; omega
  | about l => simp only [stp, dp_ab]; omega
  | drop w => have := dp_dr w r; simp only [stp]; omega
  | open_ w => have := dp_op w r; simp only [stp]; omega
  | wrap w v => exact dp_wr w v r
  | double w => simp only [stp, dp_db]; omega
  | turn => simp only [stp, dp_tn]; omega
  | only rt w =>
    have := dp_or w r; have := dp_ol w r false
    cases rt <;> simp only [stp, cond] <;> omega
end Nm
end
section
set_option Elab.async false
set_option linter.all false
set_option maxRecDepth 100000
set_option maxHeartbeats 1000000
namespace Nm
open Nk
/-! ### the program's steps -/
theorem fm_some (f : Rw → Rw) (g : Bool → Rw → Option D) (n : f .nil = .nil) (h : ∀ s i r, (f (.cons s i r)).its = (g s i).toList ++ (f r).its) (r : Rw) : r.fm g = (f r).its := by
  induction r with
  | nil => rw [n]; rfl
  | cons s i r _ ih => rw [h, Rw.fm, ih]; cases g s i <;> rfl
theorem ix_pr (a b : List Bool) (s : Bool) : op2 .ix (.tup [bL a, bL b]) (bI s) = some (bL (cond s b a)) := by
  rw [ix_row]; cases s <;> rfl
theorem marked_ev {T : Tb} (v : Tv T) {a b : List Bool} (ha : a.length = T.length) (hb : b.length = T.length) : ∀ (k : Nat) (r : Rw), r.dp < k → callK tab k 20 [T.enc, .tup [bL a, bL b], .tup r.its] = ret (.tup (mk T a b r).its)
  | 0, r, h => absurd h (Nat.not_lt_zero _)
  | k + 1, r, h => by
    rw [show callK tab (k + 1) 20 [T.enc, .tup [bL a, bL b], .tup r.its] = runB (callK tab k) 5 b_20 [T.enc, .tup [bL a, bL b], .tup r.its] from rfl]
    simp [run_at, b_20]
    rw [lc_row fun s i => some (.tup [bI (nw a b s (rend T i 0)), .tup (mk T a b i).its])]
    · simp
      exact congrArg (fun x => ret (D.tup x)) (fm_some (mk T a b) _ rfl (fun s i r => rfl) r)
    · intro s i hi
      have ih := marked_ev v ha hb k i (by omega)
      have l1 := rend_lt v i v.pos
      have e := end_ev v k i (by omega)
      have hx : rend T i 0 < (cond s b a).length := by cases s <;> simp [*]
      simp [lcG_at, asgTg, setAll, wipeE, Rw.enc, ih, e, ix_pr, ix_bL hx, nw, -p_ix_t]
theorem noted_ev {l : Ln} (v : Lv l) : ∀ (k : Nat) (r : Rw) (n : Nat), r.dp < k → n < l.length → r.sz ≤ 9999 → callK tab k 21 [l.enc, .int n, .tup r.its] = ret (.tup (ab l n r).its)
  | 0, r, _, h, _, _ => absurd h (Nat.not_lt_zero _)
  | k + 1, r, n, h, hn, hz => by
    rw [show callK tab (k + 1) 21 [l.enc, .int n, .tup r.its] = runB (callK tab k) 8 b_21 [l.enc, .int n, .tup r.its] from rfl]
    simp [run_at, b_21, asgTg]
    refine for_row (fun q ρ => ∃ (F : Rw) (a b c d : Option D), q.dp ≤ k ∧ F.len + q.len ≤ 9999 ∧ q.sz ≤ 9999 ∧ F.app (ab l n q) = ab l n r ∧ ρ = [some l.enc, some (.int n), some r.enc, some (.tup F.its), a, b, c, d]) ⟨.nil, none, none, none, none, by omega, by have := r.len_sz; simp [Rw.len]; omega, hz, rfl, rfl⟩ ?_ ?_
    · rintro s i q ρ ⟨F, a, b, c, d, h1, h2, h3, h4, rfl⟩
      simp only [Rw.dp, Rw.len, Rw.sz, ab] at h1 h2 h3 h4
      have ih := noted_ev v k i (l.get n s).2 (by omega) (l.get_lt v hn s) (by omega)
      refine ⟨_, by simp [stF_at, asgTg, setAll, ix_Ln hn, ix_row, -p_ix_t]; rw [show (bif s then prD (l.get n true) else prD (l.get n false)) = prD (l.get n s) by cases s <;> rfl]; simp [prD, setAll, ih]; rw [p_add_t (by simp [line]; omega)]; rfl, F.app (.cons (l.get n s).1 (ab l (l.get n s).2 i) .nil), _, _, _, _, by omega, by simp [Rw.len]; omega, by omega, by rw [app_assoc]; exact h4, by simp [Rw.its]; exact ⟨rfl, rfl, rfl, rfl⟩⟩
    · rintro ρ ⟨F, a, b, c, d, h1, h2, h3, h4, rfl⟩
      simp [ab] at h4
      simp [h4]
theorem dropped_ev (w : Bool) : ∀ (k : Nat) (r : Rw), r.dp < k → callK tab k 22 [bI w, .tup r.its] = ret (.tup (dr w r).its)
  | 0, r, h => absurd h (Nat.not_lt_zero _)
  | k + 1, r, h => by
    rw [show callK tab (k + 1) 22 [bI w, .tup r.its] = runB (callK tab k) 4 b_22 [bI w, .tup r.its] from rfl]
    simp [run_at, b_22]
    rw [lc_row fun s i => if s = w then none else some (.tup [bI s, .tup (dr w i).its])]
    · simp
      exact congrArg (fun x => ret (D.tup x)) (fm_some (dr w) _ rfl (fun s i r => by simp only [dr]; split <;> rfl) r)
    · intro s i hi
      have ih := dropped_ev w k i (by omega)
      by_cases e : s = w
      · simp [lcG_at, asgTg, setAll, wipeE, Rw.enc, ih, e]
      · have e' : (s == w) = false := beq_false_of_ne e
        simp [lcG_at, asgTg, setAll, wipeE, Rw.enc, ih, e, e']
theorem opened_ev (w : Bool) : ∀ (k : Nat) (r : Rw), r.dp < k → r.sz ≤ 9999 → callK tab k 23 [bI w, .tup r.its] = ret (.tup (opn w r).its)
  | 0, r, h, _ => absurd h (Nat.not_lt_zero _)
  | k + 1, r, h, hz => by
    rw [show callK tab (k + 1) 23 [bI w, .tup r.its] = runB (callK tab k) 6 b_23 [bI w, .tup r.its] from rfl]
    simp [run_at, b_23, asgTg]
    refine for_row (fun q ρ => ∃ (F : Rw) (a b c : Option D), q.dp ≤ k ∧ F.len + q.sz ≤ 9999 ∧ F.app (opn w q) = opn w r ∧ ρ = [some (bI w), some r.enc, some (.tup F.its), a, b, c]) ⟨.nil, none, none, none, by omega, by simp [Rw.len]; omega, rfl, rfl⟩ ?_ ?_
    · rintro s i q ρ ⟨F, a, b, c, h1, h2, h3, rfl⟩
      simp only [Rw.dp, Rw.sz, opn] at h1 h2 h3
      have ih := opened_ev w k i (by omega) (by omega)
      have := sz_op w i
      have := (opn w i).len_sz
      by_cases e : s = w
      · rw [if_pos e] at h3
        exact ⟨_, by simp [stF_at, asgTg, setAll, ih, e]; rw [p_add_t (by simp [line]; omega)]; rfl, F.app (opn w i), _, _, _, by omega, by simp; omega, by rw [app_assoc]; exact h3, by simp; exact ⟨rfl, rfl, rfl⟩⟩
      · have e' : (s == w) = false := beq_false_of_ne e
        rw [if_neg e] at h3
        exact ⟨_, by simp [stF_at, asgTg, setAll, ih, e']; rw [p_add_t (by simp [line]; omega)]; rfl, F.app (.cons s (opn w i) .nil), _, _, _, by omega, by simp [Rw.len]; omega, by rw [app_assoc]; exact h3, by simp [Rw.its]; exact ⟨rfl, rfl, rfl⟩⟩
    · rintro ρ ⟨F, a, b, c, h1, h2, h3, rfl⟩
      simp [opn] at h3
      simp [h3]
theorem wrapped_ev (w v : Bool) : ∀ (k : Nat) (r : Rw), r.dp < k → r.sz ≤ 9999 → callK tab k 24 [bI w, bI v, .tup r.its] = ret (.tup (wr w v r).its)
  | 0, r, h, _ => absurd h (Nat.not_lt_zero _)
  | k + 1, r, h, hz => by
    rw [show callK tab (k + 1) 24 [bI w, bI v, .tup r.its] = runB (callK tab k) 7 b_24 [bI w, bI v, .tup r.its] from rfl]
    simp [run_at, b_24, asgTg]
    refine for_row (fun q ρ => ∃ (F : Rw) (a b c : Option D), q.dp ≤ k ∧ F.len + q.sz ≤ 9999 ∧ F.app (wr w v q) = wr w v r ∧ ρ = [some (bI w), some (bI v), some r.enc, some (.tup F.its), a, b, c]) ⟨.nil, none, none, none, by omega, by simp [Rw.len]; omega, rfl, rfl⟩ ?_ ?_
    · rintro s i q ρ ⟨F, a, b, c, h1, h2, h3, rfl⟩
      simp only [Rw.dp, Rw.sz, wr] at h1 h2 h3
      have ih := wrapped_ev w v k i (by omega) (by omega)
      by_cases e : s = w
      · rw [if_pos e] at h3
        exact ⟨_, by simp [stF_at, asgTg, setAll, ih, e]; rw [p_add_t (by simp [line]; omega)]; rfl, F.app (.cons v (.cons s (wr w v i) .nil) .nil), _, _, _, by omega, by simp [Rw.len]; omega, by rw [app_assoc]; exact h3, by simp [Rw.its, e]; exact ⟨rfl, rfl, rfl⟩⟩
      · have e' : (s == w) = false := beq_false_of_ne e
        rw [if_neg e] at h3
        exact ⟨_, by simp [stF_at, asgTg, setAll, ih, e']; rw [p_add_t (by simp [line]; omega)]; rfl, F.app (.cons s (wr w v i) .nil), _, _, _, by omega, by simp [Rw.len]; omega, by rw [app_assoc]; exact h3, by simp [Rw.its]; exact ⟨rfl, rfl, rfl⟩⟩
    · rintro ρ ⟨F, a, b, c, h1, h2, h3, rfl⟩
      simp [wr] at h3
      simp [h3]
theorem doubled_ev (w : Bool) : ∀ (k : Nat) (r : Rw), r.dp < k → tw w r ≤ 9999 → callK tab k 25 [bI w, .tup r.its] = ret (.tup (db w r).its)
  | 0, r, h, _ => absurd h (Nat.not_lt_zero _)
  | k + 1, r, h, hz => by
    rw [show callK tab (k + 1) 25 [bI w, .tup r.its] = runB (callK tab k) 6 b_25 [bI w, .tup r.its] from rfl]
    simp [run_at, b_25, asgTg]
    refine for_row (fun q ρ => ∃ (F : Rw) (a b c : Option D), q.dp ≤ k ∧ F.len + tw w q ≤ 9999 ∧ F.app (db w q) = db w r ∧ ρ = [some (bI w), some r.enc, some (.tup F.its), a, b, c]) ⟨.nil, none, none, none, by omega, by simp [Rw.len]; omega, rfl, rfl⟩ ?_ ?_
    · rintro s i q ρ ⟨F, a, b, c, h1, h2, h3, rfl⟩
      simp only [Rw.dp, tw, db] at h1 h2 h3
      by_cases e : s = w
      · rw [if_pos e] at h3 h2
        have ih := doubled_ev w k i (by omega) (by omega)
        exact ⟨_, by simp [stF_at, asgTg, setAll, ih, e]; rw [p_add_t (by simp [line]; omega)]; rfl, F.app (.cons s (db w i) (.cons s (db w i) .nil)), _, _, _, by omega, by simp [Rw.len]; omega, by rw [app_assoc]; exact h3, by simp [Rw.its, e]; exact ⟨rfl, rfl, rfl⟩⟩
      · have e' : (s == w) = false := beq_false_of_ne e
        rw [if_neg e] at h3 h2
        have ih := doubled_ev w k i (by omega) (by omega)
        exact ⟨_, by simp [stF_at, asgTg, setAll, ih, e']; rw [p_add_t (by simp [line]; omega)]; rfl, F.app (.cons s (db w i) .nil), _, _, _, by omega, by simp [Rw.len]; omega, by rw [app_assoc]; exact h3, by simp [Rw.its]; exact ⟨rfl, rfl, rfl⟩⟩
    · rintro ρ ⟨F, a, b, c, h1, h2, h3, rfl⟩
      simp [db] at h3
      simp [h3]
end Nm
end
section
set_option Elab.async false
set_option linter.all false
set_option maxRecDepth 100000
set_option maxHeartbeats 1000000
namespace Nm
open Nk
theorem lc_append (g : D → M (Option D)) (xs ys : List D) : lcLoop g (xs ++ ys) = bnd (lcLoop g xs) fun a => bnd (lcLoop g ys) fun b => ret (a ++ b) := by
  induction xs with
  | nil => simp [lcLoop]
  | cons x xs ih =>
    simp only [List.cons_append, lcLoop, ih, b_assoc, r_bnd]
    congr; funext o; congr; funext a; congr; funext b
    cases o <;> rfl
theorem lc_rrow {g : D → M (Option D)} (F : Bool → Rw → Option D) : ∀ {r : Rw}, (∀ s i, i.dp < r.dp → g (.tup [bI s, .tup i.its]) = ret (F s i)) → lcLoop g r.its.reverse = ret (r.fm F).reverse
  | .nil, _ => rfl
  | .cons s i r, h => by
    have h1 := h s i (by simp [Rw.dp]; omega)
    have h2 := lc_rrow (g := g) F (r := r) fun s' i' hi => h s' i' (by simp [Rw.dp]; omega)
    rw [Rw.its, List.reverse_cons, lc_append, h2, r_bnd, lcLoop, h1, r_bnd, lcLoop, r_bnd, r_bnd, Rw.fm]
    cases F s i <;> simp
theorem turned_ev : ∀ (k : Nat) (r : Rw), r.dp < k → callK tab k 26 [.tup r.its] = ret (.tup (tn r).its)
  | 0, r, h => absurd h (Nat.not_lt_zero _)
  | k + 1, r, h => by
    rw [show callK tab (k + 1) 26 [.tup r.its] = runB (callK tab k) 3 b_26 [.tup r.its] from rfl]
    simp [run_at, b_26]
    rw [lc_rrow fun s i => some (.tup [bI s, .tup (tn i).its])]
    · simp
      refine congrArg (fun x => ret (D.tup x)) ?_
      clear h
      induction r with
      | nil => rfl
      | cons s i r _ ih => simp [Rw.fm, tn, Rw.its, ih]
    · intro s i hi
      have ih := turned_ev k i (by omega)
      simp [lcG_at, asgTg, setAll, wipeE, Rw.enc, ih]
/-- numbered boxes -/
def Rw.en (F : Nat → Bool → Rw → Option D) : Nat → Rw → List D
  | _, .nil => []
  | n, .cons s i r => (F n s i).toList ++ r.en F (n + 1)
theorem lc_enum {g : D → M (Option D)} (F : Nat → Bool → Rw → Option D) : ∀ {r : Rw} (n : Nat), (∀ (n : Nat) s i, i.dp < r.dp → g (.tup [.int n, .tup [bI s, .tup i.its]]) = ret (F n s i)) → lcLoop g (enumD n r.its) = ret (r.en F n)
  | .nil, _, _ => rfl
  | .cons s i r, n, h => by
    have h1 := h n s i (by simp [Rw.dp]; omega)
    have h2 := lc_enum (g := g) F (r := r) (n + 1) fun n' s' i' hi => h n' s' i' (by simp [Rw.dp]; omega)
    rw [Rw.its, enumD, lcLoop, h1, r_bnd, h2, r_bnd, Rw.en]
    cases F n s i <;> rfl
def sit (w : Bool) : Nat → Rw → List Nat
  | _, .nil => []
  | n, .cons s _ r => if s = w then n :: sit w (n + 1) r else sit w (n + 1) r
def nI (n : Nat) : D := .int n
theorem en_sit (w : Bool) (r : Rw) : ∀ n, r.en (fun n s i => if s = w then some (nI n) else none) n = (sit w n r).map nI := by
  induction r with
  | nil => exact fun _ => rfl
  | cons s i r _ ih => intro n; simp only [Rw.en, sit, ih]; split <;> rfl
theorem sit_ge (w : Bool) (r : Rw) : ∀ n, ∀ m ∈ sit w n r, n ≤ m := by
  induction r with
  | nil => intro n m h; cases h
  | cons s i r _ ih =>
    intro n m h
    simp only [sit] at h
    split at h
    · rcases List.mem_cons.mp h with rfl | h
      · exact Nat.le_refl _
      · have := ih _ _ h; omega
    · have := ih _ _ h; omega
theorem has_sit (w : Bool) (r : Rw) : ∀ n, r.has w = true ↔ sit w n r ≠ [] := by
  induction r with
  | nil => intro n; simp [Rw.has, sit]
  | cons s i r _ ih =>
    intro n
    simp only [sit, Rw.has]
    by_cases e : s = w
    · simp [e]
    · simp [e, ih (n + 1)]
def kpL (w : Bool) : Bool → Rw → Rw
  | _, .nil => .nil
  | seen, .cons s i r => if s = w then (if seen then kpL w true r else .cons s i (kpL w true r)) else .cons s i (kpL w seen r)
def kpR (w : Bool) : Rw → Rw
  | .nil => .nil
  | .cons s i r => if s = w ∧ r.has w = true then kpR w r else .cons s i (kpR w r)
theorem dp_kpL (w : Bool) (r : Rw) : ∀ b, (kpL w b r).dp ≤ r.dp := by
  induction r with
  | nil => exact fun _ => Nat.le_refl _
  | cons s i r _ hr =>
    intro b
    have := hr true; have := hr b
    simp only [kpL]; split
    · split <;> simp only [Rw.dp] <;> omega
    · simp only [Rw.dp]; omega
theorem dp_kpR (w : Bool) (r : Rw) : (kpR w r).dp ≤ r.dp := by
  induction r with
  | nil => exact Nat.le_refl _
  | cons s i r hi hr => simp only [kpR]; split <;> simp only [Rw.dp] <;> omega
def keepF (S K : List Nat) (n : Nat) (s : Bool) (i : Rw) : Option D := if n ∉ S ∨ n ∈ K then some (.tup [bI s, .tup i.its]) else none
theorem en_kpL (w : Bool) (S K : List Nat) (r : Rw) : ∀ (n : Nat) (seen : Bool), (∀ m, n ≤ m → (m ∈ S ↔ m ∈ sit w n r)) → (∀ m, n ≤ m → (m ∈ K ↔ seen = false ∧ (sit w n r).head? = some m)) → r.en (keepF S K) n = (kpL w seen r).its := by
  induction r with
  | nil => intros; rfl
  | cons s i r _ ih =>
    intro n seen hS hK
    simp only [sit] at hS hK
    simp only [Rw.en, kpL]
    by_cases e : s = w
    · rw [if_pos e] at hS hK ⊢
      have hn : n ∈ S := (hS n (Nat.le_refl _)).mpr List.mem_cons_self
      rw [ih (n + 1) true (fun m hm => by rw [hS m (by omega), List.mem_cons]; exact ⟨fun h => h.resolve_left (by omega), .inr⟩) (fun m hm => by
        rw [hK m (by omega)]
        simp; omega)]
      have hk := hK n (Nat.le_refl _)
      cases seen with
      | true => have : n ∉ K := by simp at hk; exact hk
                simp [keepF, hn, this]
      | false => have : n ∈ K := by simp at hk; exact hk
                 simp [keepF, this, Rw.its]
    · rw [if_neg e] at hS hK ⊢
      have hn : n ∉ S := fun h => by
        have := sit_ge w r (n + 1) n ((hS n (Nat.le_refl _)).mp h)
        omega
      rw [ih (n + 1) seen (fun m hm => hS m (by omega)) fun m hm => hK m (by omega)]
      simp [keepF, hn, Rw.its]
theorem en_kpR (w : Bool) (S K : List Nat) (r : Rw) : ∀ (n : Nat), (∀ m, n ≤ m → (m ∈ S ↔ m ∈ sit w n r)) → (∀ m, n ≤ m → (m ∈ K ↔ (sit w n r).getLast? = some m)) → r.en (keepF S K) n = (kpR w r).its := by
  induction r with
  | nil => intros; rfl
  | cons s i r _ ih =>
    intro n hS hK
    simp only [sit] at hS hK
    simp only [Rw.en, kpR]
    by_cases e : s = w
    · rw [if_pos e] at hS hK
      have hn : n ∈ S := (hS n (Nat.le_refl _)).mpr List.mem_cons_self
      have hk := hK n (Nat.le_refl _)
      have hasI := has_sit w r (n + 1)
      have next := ih (n + 1) (fun m hm => by rw [hS m (by omega), List.mem_cons]; exact ⟨fun h => h.resolve_left (by omega), .inr⟩)
      cases hs : sit w (n + 1) r with
      | nil =>
        rw [hs] at hk hasI hK
        have h1 : ¬ (r.has w = true) := fun h => hasI.mp h rfl
        rw [next fun m hm => by
          rw [hK m (by omega), hs]; simp; omega, if_neg fun h => h1 h.2]
        have : n ∈ K := by simp at hk; exact hk
        simp [keepF, this, Rw.its]
      | cons a l =>
        rw [hs] at hk hasI hK
        have h1 : r.has w = true := hasI.mpr fun h => by cases h
        rw [next fun m hm => by
          rw [hK m (by omega), hs]; simp, if_pos ⟨e, h1⟩]
        have : n ∉ K := fun h => by
          have h := hk.mp h
          rw [List.getLast?_cons_cons] at h
          have := sit_ge w r (n + 1) n (by rw [hs]; exact List.mem_of_getLast? h)
          omega
        simp [keepF, hn, this]
    · rw [if_neg e] at hS hK
      have hn : n ∉ S := fun h => by
        have := sit_ge w r (n + 1) n ((hS n (Nat.le_refl _)).mp h)
        omega
      rw [ih (n + 1) (fun m hm => hS m (by omega)) fun m hm => hK m (by omega), if_neg fun h => e h.1]
      simp [keepF, hn, Rw.its]
@[simp] theorem eqv_nI (a b : Nat) : eqv (nI a) (nI b) = (a == b) := by
  simp only [nI, eqv]
  rw [Bool.eq_iff_iff]; simp; omega
theorem deps_nI (l : List Nat) : deps (l.map nI) = 0 ∧ nosrcs (l.map nI) = true := by
  induction l with
  | nil => exact ⟨rfl, rfl⟩
  | cons x l ih => simp [deps, nosrcs, ih.1, ih.2, nI, dep, nosrc]
theorem in_lI (i : Nat) (l : List Nat) : inO (nI i) (.lst (l.map nI)) = some (decide (i ∈ l)) := by
  have h : (nosrc (nI i) && nosrcs (l.map nI) && decide (dep (nI i) ≤ 64) && decide (deps (l.map nI) + 1 ≤ 64)) = true := by
    simp [deps_nI, nI, nosrc, dep]
  show (if (nosrc (nI i) && nosrcs (l.map nI) && decide (dep (nI i) ≤ 64) && decide (deps (l.map nI) + 1 ≤ 64)) = true then some _ else none) = _
  rw [if_pos h]
  congr 1
  rw [Bool.eq_iff_iff]
  simp [show (D.int (i : Int)) = nI i from rfl]
def oo (rt w : Bool) (r : Rw) : Rw := cond rt (orr w r) (ol w false r)
theorem fm_kpL (w : Bool) (r : Rw) : ∀ b, (kpL w b r).fm (fun s i => some (.tup [bI s, .tup (ol w false i).its])) = (ol w b r).its := by
  induction r with
  | nil => exact fun _ => rfl
  | cons s i r _ ih =>
    intro b
    simp only [kpL, ol]
    split
    · split
      · exact ih true
      · simp only [Rw.fm, ih, Rw.its]
    · simp only [Rw.fm, ih, Rw.its]
theorem fm_kpR (w : Bool) (r : Rw) : (kpR w r).fm (fun s i => some (.tup [bI s, .tup (orr w i).its])) = (orr w r).its := by
  induction r with
  | nil => rfl
  | cons s i r _ ih =>
    simp only [kpR, orr]
    split
    · exact ih
    · simp only [Rw.fm, ih, Rw.its]
theorem drop_last (l : List Nat) : l.drop (l.length - 1) = l.getLast?.toList := by
  rcases List.eq_nil_or_concat l with rfl | ⟨l', a, rfl⟩
  · rfl
  · simp
theorem only_ev (rt w : Bool) : ∀ (k : Nat) (r : Rw), r.dp < k → callK tab k 27 [.str (cond rt .right .left), bI w, .tup r.its] = ret (.tup (oo rt w r).its)
  | 0, r, h => absurd h (Nat.not_lt_zero _)
  | k + 1, r, h => by
    rw [show callK tab (k + 1) 27 [.str (cond rt .right .left), bI w, .tup r.its] = runB (callK tab k) 10 b_27 [.str (cond rt .right .left), bI w, .tup r.its] from rfl]
    simp [run_at, b_27]
    rw [lc_enum (fun n s i => if s = w then some (nI n) else none) 0 fun n s i hi => by
      by_cases e : s = w
      · simp [lcG_at, asgTg, setAll, wipeE, place, e, nI]
      · have e' : (s == w) = false := beq_false_of_ne e
        simp [lcG_at, asgTg, setAll, wipeE, place, e, e', nI], en_sit]
    have keep : ∀ (S K : List Nat) (a0 a1 a2 : Option D) (n : Nat) (s : Bool) (i : Rw), lcG (callK tab k) (.var 5) (.tup [4, 5]) (.cons ((E.o2 .notin (.var 4) (.var 3)).or (E.o2 .isin (.var 4) (.var 6))) .nil) [4, 5] [a0, a1, a2, some (.lst (S.map nI)), none, none, some (.lst (K.map nI)), none, none, none] (.tup [.int n, .tup [bI s, .tup i.its]]) = ret (keepF S K n s i) := fun S K a0 a1 a2 n s i => by
      have e1 := in_lI n S
      have e2 := in_lI n K
      simp only [nI] at e1 e2
      by_cases h1 : n ∈ S
      · by_cases h2 : n ∈ K <;> simp [lcG_at, asgTg, setAll, wipeE, e1, e2, h1, h2, keepF, nI]
      · simp [lcG_at, asgTg, setAll, wipeE, e1, e2, h1, keepF, nI]
    cases rt with
    | false =>
      have hk : cut ((sit w 0 r).map nI) none (some 1) = ((sit w 0 r).take 1).map nI := by
        simp [cut, clip]
      simp [asgTg, hk, -List.map_take]
      rw [lc_enum (keepF (sit w 0 r) ((sit w 0 r).take 1)) 0 fun n s i hi => keep _ _ _ _ _ n s i]
      rw [en_kpL w _ _ r 0 false (fun _ _ => Iff.rfl) fun m _ => by
        cases sit w 0 r with
        | nil => simp
        | cons a l => simp; exact eq_comm]
      simp
      rw [lc_row fun s i => some (.tup [bI s, .tup (ol w false i).its])]
      · simp [fm_kpL, oo]
      · intro s i hi
        have := dp_kpL w r false
        have ih := only_ev false w k i (by omega)
        simp only [oo, cond] at ih
        simp [lcG_at, asgTg, setAll, wipeE, Rw.enc, ih]
    | true =>
      have hk : cut ((sit w 0 r).map nI) (some (-1)) none = ((sit w 0 r).getLast?.toList).map nI := by
        simp [cut, clip]
        rw [List.take_of_length_le (by simp), ← drop_last, List.map_drop]
        congr 1
        omega
      simp [asgTg, hk]
      rw [lc_enum (keepF (sit w 0 r) ((sit w 0 r).getLast?.toList)) 0 fun n s i hi => keep _ _ _ _ _ n s i]
      rw [en_kpR w _ _ r 0 (fun _ _ => Iff.rfl) fun m _ => Option.mem_toList]
      simp
      rw [lc_row fun s i => some (.tup [bI s, .tup (orr w i).its])]
      · simp [fm_kpR, oo]
      · intro s i hi
        have := dp_kpR w r
        have ih := only_ev true w k i (by omega)
        simp only [oo, cond] at ih
        simp [lcG_at, asgTg, setAll, wipeE, Rw.enc, ih]
end Nm
end
section
set_option Elab.async false
set_option linter.all false
set_option maxRecDepth 100000
set_option maxHeartbeats 4000000
namespace Nm
open Nk
/-- a step's row is not too long -/
def St.fits (S : St) (r : Rw) : Prop := r.sz ≤ 4000 ∧ ∀ w, S = .double w → tw w r ≤ 4000
theorem fits_sz {S : St} {r : Rw} (h : S.fits r) : (stp S r).sz ≤ 8000 := by
  obtain ⟨h1, h2⟩ := h
  cases S with
  | mark T a b => simp only [stp, sz_mk]; omega
  | about l => simp only [stp, sz_ab]; omega
  | drop w => have := sz_dr w r; simp only [stp]; omega
  | open_ w => have := sz_op w r; simp only [stp]; omega
  | wrap w v => have := sz_wr w v r; simp only [stp]; omega
  | double w => have := h2 w rfl; simp only [stp, sz_db]; omega
  | turn => simp only [stp, sz_tn]; omega
  | only rt w =>
    have := sz_or w r; have := sz_ol w r false
    cases rt <;> simp only [stp, cond] <;> omega
theorem stepped_ev {S : St} (ok : S.ok) (k : Nat) (r : Rw) (h : r.dp < k) (hf : S.fits r) : callK tab (k + 1) 28 [S.enc, .tup r.its] = ret (.tup (stp S r).its) := by
  rw [show callK tab (k + 1) 28 [S.enc, .tup r.its] = runB (callK tab k) 3 b_28 [S.enc, .tup r.its] from rfl]
  obtain ⟨h1, h2⟩ := hf
  cases S with
  | mark T a b => simp [run_at, b_28, St.enc, place, asgTg, stp, marked_ev ok.1 ok.2.2.1 ok.2.2.2 k r h]
  | about l =>
    have := noted_ev ok k r 0 h ok.pos (by omega)
    simp at this
    simp [run_at, b_28, St.enc, place, asgTg, stp, this]
  | drop w => simp [run_at, b_28, St.enc, place, asgTg, stp, dropped_ev w k r h]
  | open_ w => simp [run_at, b_28, St.enc, place, asgTg, stp, opened_ev w k r h (by omega)]
  | wrap w v => simp [run_at, b_28, St.enc, place, asgTg, stp, wrapped_ev w v k r h (by omega)]
  | double w => simp [run_at, b_28, St.enc, place, asgTg, stp, doubled_ev w k r h (by have := h2 w rfl; omega)]
  | turn => simp [run_at, b_28, St.enc, place, asgTg, stp, turned_ev k r h]
  | only rt w => simp [run_at, b_28, St.enc, place, asgTg, stp, only_ev rt w k r h, oo]
theorem ran_ev {S : St} (ok : S.ok) (k : Nat) (r : Rw) (h : 2 * r.dp + 2 ≤ k) (hf : S.fits r) (hz : (stp S r).sz ≤ 5000) (sd : D) : callK tab (k + 3) 30 [.tup [sd, .tup [S.enc]], .tup r.its] = ret (.tup (stp S r).its) := by
  rw [show callK tab (k + 3) 30 [.tup [sd, .tup [S.enc]], .tup r.its] = runB (callK tab k) 3 b_30 [.tup [sd, .tup [S.enc]], .tup r.its] from rfl]
  obtain ⟨j, rfl⟩ : ∃ j, k = j + 1 := ⟨k - 1, by omega⟩
  have hd := dp_stp S r
  have e1 := stepped_ev ok j r (by omega) hf
  have e2 := box_ev (j + 1) (stp S r) (by omega)
  have e3 : ∀ w, callK tab (j + 1) 29 [bI w, .tup r.its] = ret (.int (tw w r)) := fun w => dbox_ev w (j + 1) r (by omega)
  have hz' : ¬ ((5000 : Int) < ((stp S r).sz : Int)) := by omega
  have key : stF (callK tab (j + 1)) (.nm 2) (.cons (.ite (.and (.o2 .eq (.o2 .ix (.var 2) (.cst (.int 0))) (.cst (.str .double))) (.o2 .gt (.call 29 (.cons (.o2 .ix (.var 2) (.cst (.int 1))) (.cons (.var 1) .nil))) (.cst (.int 5000)))) (.cons (.raiseM (.cst (.int 5000))) .nil) .nil) (.cons (.asg 1 (.call 28 (.cons (.var 2) (.cons (.var 1) .nil)))) (.cons (.ite (.o2 .gt (.call 3 (.cons (.var 1) .nil)) (.cst (.int 5000))) (.cons (.raiseM (.cst (.int 5000))) .nil) .nil) .nil))) S.enc [some (.tup [sd, .tup [S.enc]]), some (.tup r.its), none] = ret (.nx [some (.tup [sd, .tup [S.enc]]), some (.tup (stp S r).its), some S.enc]) := by
    cases S with
    | double w =>
      have := hf.2 w rfl
      have h5 : ¬ ((5000 : Int) < (tw w r : Int)) := by omega
      simp only [St.enc] at e1 ⊢
      simp [stF_at, asgTg, place, e1, e2, e3, hz', h5]
    | _ =>
      simp only [St.enc] at e1 ⊢
      simp [stF_at, asgTg, place, e1, e2, hz']
  simp [run_at, b_30, place, forLoop, key]
/-! ### the law's steps -/
@[simp] theorem nosrc_nL (l : List Nat) : nosrc (nL l) = true := by
  simp only [nL, nosrc]
  induction l with
  | nil => rfl
  | cons a l ih => simp [nosrcs, nosrc, ih]
theorem nosrc_T (T : Tb) : nosrc T.enc = true := by
  simp only [Tb.enc, nosrc]
  induction T with
  | nil => rfl
  | cons a l ih => simp [nosrcs, nosrc, ih]
theorem nosrc_prD (p : Bool × Nat) : nosrc (prD p) = true := by simp [prD, nosrc, nosrcs]
theorem nosrc_Ln (l : Ln) : nosrc l.enc = true := by
  simp only [Ln.enc, nosrc]
  induction l with
  | nil => rfl
  | cons a l ih => simp [nosrcs, nosrc, ih, nosrc_prD]
theorem eqO_tup_bI {l : List D} (h : nosrc (.tup l) = true) (s : Bool) : eqO (.tup l) (bI s) = some false := by
  unfold eqO
  rw [h, nosrc_bI, if_pos (by simp [bI, dep])]
  rfl
theorem eqO_T (T : Tb) (s : Bool) : eqO T.enc (bI s) = some false := eqO_tup_bI (nosrc_T T) s
theorem eqO_Ln (T : Ln) (s : Bool) : eqO T.enc (bI s) = some false := eqO_tup_bI (nosrc_Ln T) s
theorem cond_ret {α : Type} (b : Bool) (x y : α) : (bif b then ret x else ret y) = ret (bif b then x else y) := by cases b <;> rfl
theorem cond_enc (b : Bool) (x y : Rw) : (bif b then D.tup x.its else D.tup y.its) = .tup (bif b then x else y).its := by cases b <;> rfl
theorem lmark_ev {T : Tb} (v : Tv T) {a b : List Bool} (ha : a.length = T.length) (hb : b.length = T.length) : ∀ (k : Nat) (r : Rw) (n : Nat), r.dp < k → r.sz ≤ 9999 → callK tab k 63 [(St.mark T a b).enc, .tup r.its, .int n] = ret (.tup (mk T a b r).its)
  | 0, r, _, h, _ => absurd h (Nat.not_lt_zero _)
  | k + 1, r, n, h, hz => by
    rw [show callK tab (k + 1) 63 [(St.mark T a b).enc, .tup r.its, .int n] = runB (callK tab k) 12 b_63 [(St.mark T a b).enc, .tup r.its, .int n] from rfl]
    simp [run_at, b_63, asgTg, St.enc, place, setAll]
    refine for_row (fun q ρ => ∃ (F : Rw) (x5 x6 x7 x8 x9 x10 x11 : Option D), q.dp ≤ k ∧ F.len + q.sz ≤ 9999 ∧ F.app (mk T a b q) = mk T a b r ∧ ρ = [some (St.mark T a b).enc, some r.enc, some (.int n), some (.str .mark), some (.lst F.its), x5, x6, x7, x8, x9, x10, x11]) ⟨.nil, none, none, none, none, none, none, none, by omega, by simp [Rw.len]; omega, rfl, rfl⟩ ?_ ?_
    · rintro s i q ρ ⟨F, x5, x6, x7, x8, x9, x10, x11, h1, h2, h3, rfl⟩
      simp only [Rw.dp, Rw.sz, mk] at h1 h2 h3
      have ih := lmark_ev v ha hb k i 0 (by omega) (by omega)
      have l1 := rend_lt v i v.pos
      have e := lend_ev v k i (by omega)
      have hx : rend T i 0 < (cond s b a).length := by cases s <;> simp [*]
      simp only [St.enc] at ih
      simp at ih
      refine ⟨_, ?_, F.app (.cons (nw a b s (rend T i 0)) (mk T a b i) .nil), some (bI s), some (.tup i.its), some (bI (nw a b s (rend T i 0))), some (.int 0), some (.tup [bI (nw a b s (rend T i 0)), .tup (mk T a b i).its]), some (.bl false), x11, by omega, by simp [Rw.len]; omega, by rw [app_assoc]; exact h3, rfl⟩
      simp [stF_at, asgTg, setAll, St.enc, place, ih, e, ix_pr, ix_bL hx, eqO_T]
      rw [p_add_l (by simp [line]; omega)]
      simp [Rw.its, nw]
    · rintro ρ ⟨F, x5, x6, x7, x8, x9, x10, x11, h1, h2, h3, rfl⟩
      simp [mk] at h3
      simp [h3]
end Nm
end
section
set_option Elab.async false
set_option linter.all false
set_option maxRecDepth 100000
set_option maxHeartbeats 1000000
namespace Nm
open Nk
theorem ldrop_ev (w : Bool) : ∀ (k : Nat) (r : Rw) (n : Nat), r.dp < k → r.sz ≤ 9999 → callK tab k 63 [(St.drop w).enc, .tup r.its, .int n] = ret (.tup (dr w r).its)
  | 0, r, _, h, _ => absurd h (Nat.not_lt_zero _)
  | k + 1, r, n, h, hz => by
    rw [show callK tab (k + 1) 63 [(St.drop w).enc, .tup r.its, .int n] = runB (callK tab k) 12 b_63 [(St.drop w).enc, .tup r.its, .int n] from rfl]
    simp [run_at, b_63, asgTg, St.enc, place, setAll]
    refine for_row (fun q ρ => ∃ (F : Rw) (x5 x6 x7 x8 x9 x10 x11 : Option D), q.dp ≤ k ∧ F.len + q.sz ≤ 9999 ∧ F.app (dr w q) = dr w r ∧ ρ = [some (St.drop w).enc, some r.enc, some (.int n), some (.str .drop), some (.lst F.its), x5, x6, x7, x8, x9, x10, x11]) ⟨.nil, none, none, none, none, none, none, none, by omega, by simp [Rw.len]; omega, rfl, rfl⟩ ?_ ?_
    · rintro s i q ρ ⟨F, x5, x6, x7, x8, x9, x10, x11, h1, h2, h3, rfl⟩
      simp only [Rw.dp, Rw.sz, dr] at h1 h2 h3
      have ih := ldrop_ev w k i 0 (by omega) (by omega)
      simp [St.enc] at ih
      have hl := (dr w i).len_sz
      by_cases e : s = w
      · rw [if_pos e] at h3
        exact ⟨_, by simp [stF_at, asgTg, setAll, St.enc, place, ih, e]; rfl, F, _, _, _, _, _, _, _, by omega, by omega, h3, by simp [St.enc]; exact ⟨rfl, rfl, rfl, rfl, rfl, rfl, rfl⟩⟩
      · have e' : (s == w) = false := beq_false_of_ne e
        have e2 : (w == s) = false := beq_false_of_ne fun z => e z.symm
        rw [if_neg e] at h3
        exact ⟨_, by simp [stF_at, asgTg, setAll, St.enc, place, ih, e', e2]; rw [p_add_l (by simp [line]; omega)]; rfl, F.app (.cons s (dr w i) .nil), _, _, _, _, _, _, _, by omega, by simp [Rw.len]; omega, by rw [app_assoc]; exact h3, by simp [Rw.its, St.enc, nw]; exact ⟨rfl, rfl, rfl, rfl, rfl, rfl, rfl⟩⟩
    · rintro ρ ⟨F, x5, x6, x7, x8, x9, x10, x11, h1, h2, h3, rfl⟩
      simp [dr] at h3
      simp [h3]
theorem lopen_ev (w : Bool) : ∀ (k : Nat) (r : Rw) (n : Nat), r.dp < k → r.sz ≤ 9999 → callK tab k 63 [(St.open_ w).enc, .tup r.its, .int n] = ret (.tup (opn w r).its)
  | 0, r, _, h, _ => absurd h (Nat.not_lt_zero _)
  | k + 1, r, n, h, hz => by
    rw [show callK tab (k + 1) 63 [(St.open_ w).enc, .tup r.its, .int n] = runB (callK tab k) 12 b_63 [(St.open_ w).enc, .tup r.its, .int n] from rfl]
    simp [run_at, b_63, asgTg, St.enc, place, setAll]
    refine for_row (fun q ρ => ∃ (F : Rw) (x5 x6 x7 x8 x9 x10 x11 : Option D), q.dp ≤ k ∧ F.len + q.sz ≤ 9999 ∧ F.app (opn w q) = opn w r ∧ ρ = [some (St.open_ w).enc, some r.enc, some (.int n), some (.str .open_), some (.lst F.its), x5, x6, x7, x8, x9, x10, x11]) ⟨.nil, none, none, none, none, none, none, none, by omega, by simp [Rw.len]; omega, rfl, rfl⟩ ?_ ?_
    · rintro s i q ρ ⟨F, x5, x6, x7, x8, x9, x10, x11, h1, h2, h3, rfl⟩
      simp only [Rw.dp, Rw.sz, opn] at h1 h2 h3
      have ih := lopen_ev w k i 0 (by omega) (by omega)
      simp [St.enc] at ih
      have hl := (opn w i).len_sz
      by_cases e : s = w
      · rw [if_pos e] at h3
        have hs := sz_op w i
        exact ⟨_, by simp [stF_at, asgTg, setAll, St.enc, place, ih, e]; rw [p_add_l (by simp [line]; omega)]; rfl, F.app (opn w i), _, _, _, _, _, _, _, by omega, by simp [Rw.len]; omega, by rw [app_assoc]; exact h3, by simp [Rw.its, St.enc, nw]; exact ⟨rfl, rfl, rfl, rfl, rfl, rfl, rfl⟩⟩
      · have e' : (s == w) = false := beq_false_of_ne e
        have e2 : (w == s) = false := beq_false_of_ne fun z => e z.symm
        rw [if_neg e] at h3
        exact ⟨_, by simp [stF_at, asgTg, setAll, St.enc, place, ih, e', e2]; rw [p_add_l (by simp [line]; omega)]; rfl, F.app (.cons s (opn w i) .nil), _, _, _, _, _, _, _, by omega, by simp [Rw.len]; omega, by rw [app_assoc]; exact h3, by simp [Rw.its, St.enc, nw]; exact ⟨rfl, rfl, rfl, rfl, rfl, rfl, rfl⟩⟩
    · rintro ρ ⟨F, x5, x6, x7, x8, x9, x10, x11, h1, h2, h3, rfl⟩
      simp [opn] at h3
      simp [h3]
theorem lwrap_ev (w v : Bool) : ∀ (k : Nat) (r : Rw) (n : Nat), r.dp < k → r.sz ≤ 9999 → callK tab k 63 [(St.wrap w v).enc, .tup r.its, .int n] = ret (.tup (wr w v r).its)
  | 0, r, _, h, _ => absurd h (Nat.not_lt_zero _)
  | k + 1, r, n, h, hz => by
    rw [show callK tab (k + 1) 63 [(St.wrap w v).enc, .tup r.its, .int n] = runB (callK tab k) 12 b_63 [(St.wrap w v).enc, .tup r.its, .int n] from rfl]
    simp [run_at, b_63, asgTg, St.enc, place, setAll]
    refine for_row (fun q ρ => ∃ (F : Rw) (x5 x6 x7 x8 x9 x10 x11 : Option D), q.dp ≤ k ∧ F.len + q.sz ≤ 9999 ∧ F.app (wr w v q) = wr w v r ∧ ρ = [some (St.wrap w v).enc, some r.enc, some (.int n), some (.str .wrap), some (.lst F.its), x5, x6, x7, x8, x9, x10, x11]) ⟨.nil, none, none, none, none, none, none, none, by omega, by simp [Rw.len]; omega, rfl, rfl⟩ ?_ ?_
    · rintro s i q ρ ⟨F, x5, x6, x7, x8, x9, x10, x11, h1, h2, h3, rfl⟩
      simp only [Rw.dp, Rw.sz, wr] at h1 h2 h3
      have ih := lwrap_ev w v k i 0 (by omega) (by omega)
      simp [St.enc] at ih
      have hl := (wr w v i).len_sz
      by_cases e : s = w
      · rw [if_pos e] at h3
        exact ⟨_, by simp [stF_at, asgTg, setAll, St.enc, place, ih, e]; rw [p_add_l (by simp [line]; omega)]; rfl, F.app (.cons v (.cons s (wr w v i) .nil) .nil), _, _, _, _, _, _, _, by omega, by simp [Rw.len]; omega, by rw [app_assoc]; exact h3, by simp [Rw.its, St.enc, nw, e]; exact ⟨rfl, rfl, rfl, rfl, rfl, rfl, rfl⟩⟩
      · have e' : (s == w) = false := beq_false_of_ne e
        have e2 : (w == s) = false := beq_false_of_ne fun z => e z.symm
        rw [if_neg e] at h3
        exact ⟨_, by simp [stF_at, asgTg, setAll, St.enc, place, ih, e', e2]; rw [p_add_l (by simp [line]; omega)]; rfl, F.app (.cons s (wr w v i) .nil), _, _, _, _, _, _, _, by omega, by simp [Rw.len]; omega, by rw [app_assoc]; exact h3, by simp [Rw.its, St.enc, nw]; exact ⟨rfl, rfl, rfl, rfl, rfl, rfl, rfl⟩⟩
    · rintro ρ ⟨F, x5, x6, x7, x8, x9, x10, x11, h1, h2, h3, rfl⟩
      simp [wr] at h3
      simp [h3]
theorem ldouble_ev (w : Bool) : ∀ (k : Nat) (r : Rw) (n : Nat), r.dp < k → tw w r ≤ 9999 → callK tab k 63 [(St.double w).enc, .tup r.its, .int n] = ret (.tup (db w r).its)
  | 0, r, _, h, _ => absurd h (Nat.not_lt_zero _)
  | k + 1, r, n, h, hz => by
    rw [show callK tab (k + 1) 63 [(St.double w).enc, .tup r.its, .int n] = runB (callK tab k) 12 b_63 [(St.double w).enc, .tup r.its, .int n] from rfl]
    simp [run_at, b_63, asgTg, St.enc, place, setAll]
    refine for_row (fun q ρ => ∃ (F : Rw) (x5 x6 x7 x8 x9 x10 x11 : Option D), q.dp ≤ k ∧ F.len + tw w q ≤ 9999 ∧ F.app (db w q) = db w r ∧ ρ = [some (St.double w).enc, some r.enc, some (.int n), some (.str .double), some (.lst F.its), x5, x6, x7, x8, x9, x10, x11]) ⟨.nil, none, none, none, none, none, none, none, by omega, by simp [Rw.len]; omega, rfl, rfl⟩ ?_ ?_
    · rintro s i q ρ ⟨F, x5, x6, x7, x8, x9, x10, x11, h1, h2, h3, rfl⟩
      simp only [Rw.dp, tw, db] at h1 h2 h3
      have hl := (db w i).len_sz
      by_cases e : s = w
      · rw [if_pos e] at h3 h2
        have ih := ldouble_ev w k i 0 (by omega) (by omega)
        simp [St.enc] at ih
        exact ⟨_, by simp [stF_at, asgTg, setAll, St.enc, place, ih, e]; rw [p_add_l (by simp [line]; omega)]; rfl, F.app (.cons s (db w i) (.cons s (db w i) .nil)), _, _, _, _, _, _, _, by omega, by simp [Rw.len]; omega, by rw [app_assoc]; exact h3, by simp [Rw.its, St.enc, nw, e]; exact ⟨rfl, rfl, rfl, rfl, rfl, rfl, rfl⟩⟩
      · have e' : (s == w) = false := beq_false_of_ne e
        have e2 : (w == s) = false := beq_false_of_ne fun z => e z.symm
        rw [if_neg e] at h3 h2
        have ih := ldouble_ev w k i 0 (by omega) (by omega)
        simp [St.enc] at ih
        exact ⟨_, by simp [stF_at, asgTg, setAll, St.enc, place, ih, e', e2]; rw [p_add_l (by simp [line]; omega)]; rfl, F.app (.cons s (db w i) .nil), _, _, _, _, _, _, _, by omega, by simp [Rw.len]; omega, by rw [app_assoc]; exact h3, by simp [Rw.its, St.enc, nw]; exact ⟨rfl, rfl, rfl, rfl, rfl, rfl, rfl⟩⟩
    · rintro ρ ⟨F, x5, x6, x7, x8, x9, x10, x11, h1, h2, h3, rfl⟩
      simp [db] at h3
      simp [h3]
theorem labout_ev {l : Ln} (v : Lv l) : ∀ (k : Nat) (r : Rw) (n : Nat), r.dp < k → n < l.length ∧ r.sz ≤ 9999 → callK tab k 63 [(St.about l).enc, .tup r.its, .int n] = ret (.tup (ab l n r).its)
  | 0, r, _, h, _ => absurd h (Nat.not_lt_zero _)
  | k + 1, r, n, h, hz => by
    rw [show callK tab (k + 1) 63 [(St.about l).enc, .tup r.its, .int n] = runB (callK tab k) 12 b_63 [(St.about l).enc, .tup r.its, .int n] from rfl]
    simp [run_at, b_63, asgTg, St.enc, place, setAll]
    refine for_row (fun q ρ => ∃ (F : Rw) (x5 x6 x7 x8 x9 x10 x11 : Option D), q.dp ≤ k ∧ F.len + q.sz ≤ 9999 ∧ F.app (ab l n q) = ab l n r ∧ ρ = [some (St.about l).enc, some r.enc, some (.int n), some (.str .about), some (.lst F.its), x5, x6, x7, x8, x9, x10, x11]) ⟨.nil, none, none, none, none, none, none, none, by omega, by simp [Rw.len]; omega, rfl, rfl⟩ ?_ ?_
    · rintro s i q ρ ⟨F, x5, x6, x7, x8, x9, x10, x11, h1, h2, h3, rfl⟩
      simp only [Rw.dp, Rw.sz, ab] at h1 h2 h3
      have ih := labout_ev v k i (l.get n s).2 (by omega) ⟨l.get_lt v hz.1 s, by omega⟩
      simp [St.enc] at ih
      exact ⟨_, by simp [stF_at, asgTg, setAll, St.enc, place, ih, ix_Ln hz.1, ix_row, eqO_Ln]; rw [show (bif s then prD (l.get n true) else prD (l.get n false)) = prD (l.get n s) by cases s <;> rfl]; simp [prD, setAll, ih, place, eqO_Ln]; rw [p_add_l (by simp [line]; omega)]; rfl, F.app (.cons (l.get n s).1 (ab l (l.get n s).2 i) .nil), _, _, _, _, _, _, _, by omega, by simp [Rw.len]; omega, by rw [app_assoc]; exact h3, by simp [Rw.its, St.enc, nw]; exact ⟨rfl, rfl, rfl, rfl, rfl, rfl, rfl⟩⟩
    · rintro ρ ⟨F, x5, x6, x7, x8, x9, x10, x11, h1, h2, h3, rfl⟩
      simp [ab] at h3
      simp [h3]
theorem lturn_ev  : ∀ (k : Nat) (r : Rw) (n : Nat), r.dp < k → r.sz ≤ 9999 → callK tab k 63 [St.turn.enc, .tup r.its, .int n] = ret (.tup (tn r).its)
  | 0, r, _, h, _ => absurd h (Nat.not_lt_zero _)
  | k + 1, r, n, h, hz => by
    rw [show callK tab (k + 1) 63 [St.turn.enc, .tup r.its, .int n] = runB (callK tab k) 12 b_63 [St.turn.enc, .tup r.its, .int n] from rfl]
    simp [run_at, b_63, asgTg, St.enc, place, setAll]
    refine for_row (fun q ρ => ∃ (F : Rw) (x5 x6 x7 x8 x9 x10 x11 : Option D), q.dp ≤ k ∧ F.len + q.sz ≤ 9999 ∧ (tn q).app F = tn r ∧ ρ = [some St.turn.enc, some r.enc, some (.int n), some (.str .turn), some (.lst F.its), x5, x6, x7, x8, x9, x10, x11]) ⟨.nil, none, none, none, none, none, none, none, by omega, by simp [Rw.len]; omega, app_nil _, rfl⟩ ?_ ?_
    · rintro s i q ρ ⟨F, x5, x6, x7, x8, x9, x10, x11, h1, h2, h3, rfl⟩
      simp only [Rw.dp, Rw.sz, tn] at h1 h2 h3
      have ih := lturn_ev k i 0 (by omega) (by omega)
      simp [St.enc] at ih
      exact ⟨_, by simp [stF_at, asgTg, setAll, St.enc, place, ih, eqO_Ln]; rw [p_add_l (by simp [line]; omega)]; rfl, (Rw.cons s (tn i) .nil).app F, _, _, _, _, _, _, _, by omega, by simp [Rw.len]; omega, by rw [app_assoc] at h3; exact h3, by simp [Rw.its, St.enc, nw]; exact ⟨rfl, rfl, rfl, rfl, rfl, rfl, rfl⟩⟩
    · rintro ρ ⟨F, x5, x6, x7, x8, x9, x10, x11, h1, h2, h3, rfl⟩
      simp [tn, Rw.app] at h3
      simp [h3]
end Nm
end
section
set_option Elab.async false
set_option linter.all false
set_option maxRecDepth 100000
set_option maxHeartbeats 1000000
namespace Nm
open Nk
def filt (w : Bool) : Rw → Rw
  | .nil => .nil
  | .cons s i r => if s = w then filt w r else .cons s i (filt w r)
theorem filt_its (w : Bool) (r : Rw) : r.fm (fun s i => if s = w then none else some (.tup [bI s, .tup i.its])) = (filt w r).its := by
  induction r with
  | nil => rfl
  | cons s i r _ ih =>
    simp only [Rw.fm, filt]
    by_cases e : s = w
    · simp [e, ih]
    · simp [e, ih, Rw.its]
theorem filt_len (w : Bool) (r : Rw) : (filt w r).len ≤ r.len := by
  induction r with
  | nil => exact Nat.le_refl _
  | cons s i r _ ih =>
    simp only [filt]
    split <;> simp only [Rw.len] <;> omega
theorem filt_app (w : Bool) (a b : Rw) : filt w (a.app b) = (filt w a).app (filt w b) := by
  induction a with
  | nil => rfl
  | cons s i r _ ih =>
    simp only [Rw.app, filt, ih]
    split <;> simp [Rw.app]
theorem filt_filt (w : Bool) (a : Rw) : filt w (filt w a) = filt w a := by
  induction a with
  | nil => rfl
  | cons s i r _ ih =>
    simp only [filt]
    split
    · exact ih
    · rename_i h; simp only [filt, if_neg h, ih]
theorem has_app (w : Bool) (a b : Rw) : (a.app b).has w = (a.has w || b.has w) := by
  induction a with
  | nil => simp [Rw.app, Rw.has]
  | cons s i r _ ih => simp [Rw.app, Rw.has, ih, Bool.or_assoc]
theorem fm_has (w : Bool) (r : Rw) : (r.fm (fun s i => if s = w then some (.tup [bI s, .tup i.its]) else none) = []) ↔ r.has w = false := by
  induction r with
  | nil => simp [Rw.fm, Rw.has]
  | cons s i r _ ih =>
    simp only [Rw.fm, Rw.has]
    by_cases e : s = w <;> simp [e, ih]
theorem fm_nosrc (w : Bool) (r : Rw) : nosrcs (r.fm (fun s i => if s = w then some (.tup [bI s, .tup i.its]) else none)) = true := by
  induction r with
  | nil => rfl
  | cons s i r _ ih =>
    simp only [Rw.fm]
    by_cases e : s = w <;> simp [e, ih, nosrcs, nosrc]
theorem eqO_lst_nil {l : List D} (h : nosrcs l = true) : eqO (.lst l) (.lst []) = some (decide (l = [])) := by
  unfold eqO
  rw [if_pos (by simp [nosrc, nosrcs, h, dep, deps])]
  cases l <;> rfl
theorem lc_row0 {g : D → M (Option D)} (F : Bool → Rw → Option D) : ∀ {r : Rw}, (∀ s i, g (.tup [bI s, .tup i.its]) = ret (F s i)) → lcLoop g r.its = ret (r.fm F) := fun h => lc_row F fun s i _ => h s i
theorem lleft_ev (w : Bool) : ∀ (k : Nat) (r : Rw) (n : Nat), r.dp < k → r.sz ≤ 9999 → callK tab k 63 [(St.only false w).enc, .tup r.its, .int n] = ret (.tup (ol w false r).its)
  | 0, r, _, h, _ => absurd h (Nat.not_lt_zero _)
  | k + 1, r, n, h, hz => by
    rw [show callK tab (k + 1) 63 [(St.only false w).enc, .tup r.its, .int n] = runB (callK tab k) 12 b_63 [(St.only false w).enc, .tup r.its, .int n] from rfl]
    simp [run_at, b_63, asgTg, St.enc, place, setAll]
    refine for_row (fun q ρ => ∃ (F : Rw) (x5 x6 x7 x8 x9 x10 x11 : Option D), q.dp ≤ k ∧ F.len + q.sz ≤ 9999 ∧ F.app (ol w (F.has w) q) = ol w false r ∧ ρ = [some (St.only false w).enc, some r.enc, some (.int n), some (.str .only), some (.lst F.its), x5, x6, x7, x8, x9, x10, x11]) ⟨.nil, none, none, none, none, none, none, none, by omega, by simp [Rw.len]; omega, rfl, rfl⟩ ?_ ?_
    · rintro s i q ρ ⟨F, x5, x6, x7, x8, x9, x10, x11, h1, h2, h3, rfl⟩
      simp only [Rw.dp, Rw.sz, ol] at h1 h2 h3
      have ih := lleft_ev w k i 0 (by omega) (by omega)
      simp [St.enc] at ih
      by_cases e : s = w
      · subst e
        rw [if_pos rfl] at h3
        have hf := fm_has s F
        have lc : ∀ a0 a1 a2 a3 a4 a6 a7 a8 a9 a10 a11 : Option D, lcLoop (lcG (callK tab k) (.var 11) (.nm 11) (.cons (.o2 .eq (.o2 .ix (.var 11) (.cst (.int 0))) (.var 5)) .nil) [11] [a0, a1, a2, a3, a4, some (bI s), a6, a7, a8, a9, a10, a11]) F.its = ret (F.fm fun s' i => if s' = s then some (.tup [bI s', .tup i.its]) else none) := fun a0 a1 a2 a3 a4 a6 a7 a8 a9 a10 a11 => lc_row0 _ fun s' i => by
          by_cases e2 : s' = s
          · simp [lcG_at, asgTg, wipeE, place, e2]
          · have e' : (s' == s) = false := beq_false_of_ne e2
            simp [lcG_at, asgTg, wipeE, place, e2, e']
        cases hh : F.has s with
        | true =>
          rw [hh] at h3
          rw [if_pos rfl] at h3
          have hne : ¬ (F.fm (fun s' i => if s' = s then some (.tup [bI s', .tup i.its]) else none) = []) := fun z => by rw [hf.mp z] at hh; cases hh
          refine ⟨_, ?_, F, some (bI s), some (.tup i.its), some (bI s), some (.int 0), some (.tup [bI s, .tup (ol s false i).its]), some (.bl true), x11, by omega, by omega, by rw [hh]; exact h3, rfl⟩
          simp [stF_at, asgTg, setAll, St.enc, place, ih, lc, eqO_lst_nil (fm_nosrc s F), hne]
        | false =>
          rw [hh] at h3
          rw [if_neg (by decide)] at h3
          have hne : F.fm (fun s' i => if s' = s then some (.tup [bI s', .tup i.its]) else none) = [] := hf.mpr hh
          refine ⟨_, ?_, F.app (.cons s (ol s false i) .nil), some (bI s), some (.tup i.its), some (bI s), some (.int 0), some (.tup [bI s, .tup (ol s false i).its]), some (.bl true), x11, by omega, by simp [Rw.len]; omega, by rw [app_assoc, has_app]; simp [Rw.has]; exact h3, rfl⟩
          simp [stF_at, asgTg, setAll, St.enc, place, ih, lc, show eqO (.lst []) (.lst []) = some true from rfl, hne]
          rw [p_add_l (by simp [line]; omega)]
          simp [Rw.its]
      · have e' : (s == w) = false := beq_false_of_ne e
        have e2 : (w == s) = false := beq_false_of_ne fun z => e z.symm
        rw [if_neg e] at h3
        refine ⟨_, ?_, F.app (.cons s (ol w false i) .nil), some (bI s), some (.tup i.its), some (bI s), some (.int 0), some (.tup [bI s, .tup (ol w false i).its]), some (.bl false), x11, by omega, by simp [Rw.len]; omega, by rw [app_assoc, has_app]; simp [Rw.has, e']; exact h3, rfl⟩
        simp [stF_at, asgTg, setAll, St.enc, place, ih, e2]
        rw [p_add_l (by simp [line]; omega)]
        simp [Rw.its]
    · rintro ρ ⟨F, x5, x6, x7, x8, x9, x10, x11, h1, h2, h3, rfl⟩
      simp [ol] at h3
      simp [h3]
theorem lright_ev (w : Bool) : ∀ (k : Nat) (r : Rw) (n : Nat), r.dp < k → r.sz ≤ 9999 → callK tab k 63 [(St.only true w).enc, .tup r.its, .int n] = ret (.tup (orr w r).its)
  | 0, r, _, h, _ => absurd h (Nat.not_lt_zero _)
  | k + 1, r, n, h, hz => by
    rw [show callK tab (k + 1) 63 [(St.only true w).enc, .tup r.its, .int n] = runB (callK tab k) 12 b_63 [(St.only true w).enc, .tup r.its, .int n] from rfl]
    simp [run_at, b_63, asgTg, St.enc, place, setAll]
    refine for_row (fun q ρ => ∃ (F : Rw) (x5 x6 x7 x8 x9 x10 x11 : Option D), q.dp ≤ k ∧ F.len + q.sz ≤ 9999 ∧ (if q.has w then filt w F else F).app (orr w q) = orr w r ∧ ρ = [some (St.only true w).enc, some r.enc, some (.int n), some (.str .only), some (.lst F.its), x5, x6, x7, x8, x9, x10, x11]) ⟨.nil, none, none, none, none, none, none, none, by omega, by simp [Rw.len]; omega, by split <;> rfl, rfl⟩ ?_ ?_
    · rintro s i q ρ ⟨F, x5, x6, x7, x8, x9, x10, x11, h1, h2, h3, rfl⟩
      simp only [Rw.dp, Rw.sz, orr, Rw.has] at h1 h2 h3
      have ih := lright_ev w k i 0 (by omega) (by omega)
      simp [St.enc] at ih
      by_cases e : s = w
      · subst e
        have hl := filt_len s F
        have lc : ∀ a0 a1 a2 a3 a4 a6 a7 a8 a9 a10 a11 : Option D, lcLoop (lcG (callK tab k) (.var 11) (.nm 11) (.cons (.o2 .ne (.o2 .ix (.var 11) (.cst (.int 0))) (.var 5)) .nil) [11] [a0, a1, a2, a3, a4, some (bI s), a6, a7, a8, a9, a10, a11]) F.its = ret (filt s F).its := fun a0 a1 a2 a3 a4 a6 a7 a8 a9 a10 a11 => by
          rw [← filt_its]
          refine lc_row0 _ fun s' i => ?_
          by_cases e2 : s' = s
          · simp [lcG_at, asgTg, wipeE, place, e2]
          · have e' : (s' == s) = false := beq_false_of_ne e2
            simp [lcG_at, asgTg, wipeE, place, e2, e']
        refine ⟨_, ?_, (filt s F).app (.cons s (orr s i) .nil), some (bI s), some (.tup i.its), some (bI s), some (.int 0), some (.tup [bI s, .tup (orr s i).its]), some (.bl true), x11, by omega, by simp [Rw.len]; omega, ?_, rfl⟩
        · simp [stF_at, asgTg, setAll, St.enc, place, ih, lc]
          rw [p_add_l (by simp [line]; omega)]
          simp [Rw.its]
        · simp at h3
          rw [← h3]
          by_cases hq : q.has s = true
          · simp [hq, filt_app, filt_filt, filt]
          · simp [hq, app_assoc, Rw.app]
      · have e' : (s == w) = false := beq_false_of_ne e
        have e2 : (w == s) = false := beq_false_of_ne fun z => e z.symm
        refine ⟨_, ?_, F.app (.cons s (orr w i) .nil), some (bI s), some (.tup i.its), some (bI s), some (.int 0), some (.tup [bI s, .tup (orr w i).its]), some (.bl false), x11, by omega, by simp [Rw.len]; omega, ?_, rfl⟩
        · simp [stF_at, asgTg, setAll, St.enc, place, ih, e2]
          rw [p_add_l (by simp [line]; omega)]
          simp [Rw.its]
        · simp [e, e'] at h3
          rw [← h3]
          by_cases hq : q.has w = true
          · simp [hq, filt_app, filt, e, app_assoc, Rw.app]
          · simp [hq, app_assoc, Rw.app]
    · rintro ρ ⟨F, x5, x6, x7, x8, x9, x10, x11, h1, h2, h3, rfl⟩
      simp [orr, Rw.has] at h3
      simp [h3]
theorem lstepped_ev {S : St} (ok : S.ok) (k : Nat) (r : Rw) (h : r.dp < k) (hf : S.fits r) : callK tab k 63 [S.enc, .tup r.its, .int 0] = ret (.tup (stp S r).its) := by
  obtain ⟨h1, h2⟩ := hf
  cases S with
  | mark T a b => exact lmark_ev ok.1 ok.2.2.1 ok.2.2.2 k r 0 h (by omega)
  | about l => exact labout_ev ok k r 0 h ⟨ok.pos, by omega⟩
  | drop w => exact ldrop_ev w k r 0 h (by omega)
  | open_ w => exact lopen_ev w k r 0 h (by omega)
  | wrap w v => exact lwrap_ev w v k r 0 h (by omega)
  | double w => exact ldouble_ev w k r 0 h (by have := h2 w rfl; omega)
  | turn => exact lturn_ev k r 0 h (by omega)
  | only rt w =>
    cases rt with
    | false => exact lleft_ev w k r 0 h (by omega)
    | true => exact lright_ev w k r 0 h (by omega)
/-! ### what the law does with a step -/
def St.much (S : St) (r : Rw) : Bool := match S with
  | .double w => decide (300 < tw w r)
  | _ => false
def done (S : St) (r : Rw) : Option Rw := if S.much r = true then none else if (stp S r).sz ≤ 300 ∧ (stp S r).dp ≤ 60 then some (stp S r) else none
def oD : Option Rw → D
  | none => .non
  | some r => .tup r.its
theorem fits_of {S : St} {r : Rw} (h : r.sz ≤ 300) (m : S.much r = false) : S.fits r := ⟨by omega, fun w e => by
  subst e
  simp [St.much] at m
  omega⟩
theorem done_ev {S : St} (ok : S.ok) (k : Nat) (r : Rw) (h : 2 * r.dp < k) (hz : r.sz ≤ 300) : callK tab (k + 1) 71 [S.enc, .tup r.its] = ret (oD (done S r)) := by
  rw [show callK tab (k + 1) 71 [S.enc, .tup r.its] = runB (callK tab k) 3 b_71 [S.enc, .tup r.its] from rfl]
  have hd := dp_stp S r
  have e3 : ∀ w, callK tab k 70 [bI w, .tup r.its] = ret (.int (tw w r)) := fun w => twice_ev w k r (by omega)
  cases hm : S.much r with
  | true =>
    cases S with
    | double w =>
      have h3 : (300 : Int) < (tw w r : Int) := by simp [St.much] at hm; omega
      simp [run_at, b_71, St.enc, place, e3, h3, done, hm, oD]
    | _ => cases hm
  | false =>
    have hf := fits_of hz hm
    have hb := fits_sz hf
    have e1 := lstepped_ev ok k r (by omega) hf
    have e2 := size_ev k (stp S r) (by omega)
    have e4 := deep_ev k (stp S r) (by omega) (by omega)
    have fin : (bnd (if (stp S r).sz ≤ 300 ∧ (stp S r).dp ≤ 60 then ret (D.tup (stp S r).its) else ret .non) ret : M D) = ret (oD (done S r)) := by
      simp only [done, hm]
      split <;> simp [oD, *]
    by_cases hs : (stp S r).sz ≤ 300
    · have hs' : ((stp S r).sz : Int) ≤ 300 := by omega
      by_cases hq : (stp S r).dp ≤ 60
      · have hq' : ((stp S r).dp : Int) ≤ 60 := by omega
        cases S with
        | double w =>
          have h3 : ¬ (300 : Int) < (tw w r : Int) := by simp [St.much] at hm; omega
          simp only [St.enc] at e1 ⊢
          simp [run_at, b_71, place, asgTg, e1, e2, e3, e4, h3, done, hm, oD, hs, hq, hs', hq']
        | _ =>
          simp only [St.enc] at e1 ⊢
          simp [run_at, b_71, place, asgTg, e1, e2, e4, done, hm, oD, hs, hq, hs', hq']
      · have hq' : ¬ ((stp S r).dp : Int) ≤ 60 := by omega
        cases S with
        | double w =>
          have h3 : ¬ (300 : Int) < (tw w r : Int) := by simp [St.much] at hm; omega
          simp only [St.enc] at e1 ⊢
          simp [run_at, b_71, place, asgTg, e1, e2, e3, e4, h3, done, hm, oD, hs, hq, hs', hq']
        | _ =>
          simp only [St.enc] at e1 ⊢
          simp [run_at, b_71, place, asgTg, e1, e2, e4, done, hm, oD, hs, hq, hs', hq']
    · have hs' : ¬ ((stp S r).sz : Int) ≤ 300 := by omega
      cases S with
      | double w =>
        have h3 : ¬ (300 : Int) < (tw w r : Int) := by simp [St.much] at hm; omega
        simp only [St.enc] at e1 ⊢
        simp [run_at, b_71, place, asgTg, e1, e2, e3, e4, h3, done, hm, oD, hs, hs']
      | _ =>
        simp only [St.enc] at e1 ⊢
        simp [run_at, b_71, place, asgTg, e1, e2, e4, done, hm, oD, hs, hs']
end Nm
end
section
set_option Elab.async false
set_option linter.all false
set_option maxRecDepth 100000
set_option maxHeartbeats 1000000
namespace Nm
open Nk
/-! ### what is valid -/
theorem fm_none (xs : List D) : xs.filterMap (fun _ => (none : Option D)) = [] := by
  induction xs with
  | nil => rfl
  | cons x xs ih => rw [List.filterMap_cons]; exact ih
theorem fm_const (c : D) (xs : List D) : xs.filterMap (fun _ => some c) = List.replicate xs.length c := by
  induction xs with
  | nil => rfl
  | cons x xs ih => rw [List.filterMap_cons]; simp [ih, List.replicate_succ]
theorem lc_none {g : D → M (Option D)} {xs : List D} (h : ∀ x ∈ xs, g x = ret none) : lcLoop g xs = ret [] := by
  rw [lc_map (h := fun _ => none) h, fm_none]
theorem for_all {α : Type} {g : D → Env → M Fl} {f : Fl → M α} {v : M α} (P : Env → Prop) {xs : List D} {ρ : Env} (h : P ρ) (step : ∀ x ∈ xs, ∀ ρ, P ρ → ∃ ρ', g x ρ = ret (.nx ρ') ∧ P ρ') (fin : ∀ ρ, P ρ → f (.nx ρ) = v) : bnd (forLoop g xs ρ) f = v := by
  induction xs generalizing ρ with
  | nil => exact fin ρ h
  | cons x xs ih =>
    obtain ⟨ρ', e, h'⟩ := step x List.mem_cons_self ρ h
    rw [forLoop, e, r_bnd]
    exact ih h' fun y hy => step y (List.mem_cons_of_mem _ hy)
theorem whole_bI (k : Nat) (s : Bool) : callK tab (k + 1) 0 [bI s, .int 0, .int 1] = ret (.bl true) := by
  have := whole_ev k (cond s 1 0) 0 1
  rw [show bI s = .int (cond s 1 0) from rfl, this]
  cases s <;> rfl
theorem eqO_tup_nil {l : List D} (h : nosrcs l = true) : eqO (.tup l) (.tup []) = some (decide (l = [])) := by
  unfold eqO
  rw [if_pos (by simp [nosrc, nosrcs, h, dep, deps])]
  cases l <;> rfl
theorem nl : eqO (.lst []) (.lst []) = some true := rfl
structure Kd.ok (K : Kd) : Prop where
  tv : Tv K.T
  few : K.T.length ≤ 3
  rise : K.good.Pairwise (· < ·)
  lt : ∀ g ∈ K.good, g < K.T.length
theorem table_ev {T : Tb} (v : Tv T) (k : Nat) (m : Int) (hm : (T.length : Int) ≤ m) : callK tab (k + 2) 6 [.int 2, T.enc, .int m] = ret (.bl true) := by
  rw [show callK tab (k + 2) 6 [.int 2, T.enc, .int m] = runB (callK tab (k + 1)) 7 b_6 [.int 2, T.enc, .int m] from rfl]
  have hp := v.pos
  have h1 : (1 : Int) ≤ (T.length : Int) := by omega
  simp [run_at, b_6, Tb.enc, h1, hm, asgTg]
  refine for_all (fun ρ => ∃ a b c, ρ = [some (.int 2), some T.enc, some (.int m), some (.int T.length), a, b, c]) ⟨none, none, none, rfl⟩ ?_ ?_
  · rintro x hx ρ ⟨a, b, c, rfl⟩
    obtain ⟨p, hp, rfl⟩ := List.mem_map.mp hx
    have hv := v.ok p hp
    have line : ∀ l : List Nat, l.length = T.length → (∀ y ∈ l, y < T.length) → ∀ (x0 x1 x2 x4 x5 : Option D), lcLoop (lcG (callK tab (k + 1)) (.var 6) (.nm 6) (.cons (.not (.call 0 (.cons (.var 6) (.cons (.cst (.int 0)) (.cons (.o2 .sub (.var 3) (.cst (.int 1))) .nil))))) .nil) [6] [x0, x1, x2, some (.int T.length), x4, x5, c]) (l.map fun (n : Nat) => .int n) = ret [] := fun l hl hy x0 x1 x2 x4 x5 => lc_none fun x hx => by
      obtain ⟨n, hn, rfl⟩ := List.mem_map.mp hx
      have := hy n hn
      have h2 : (n : Int) ≤ (T.length : Int) - 1 := by omega
      have h3 : (0 : Int) ≤ (n : Int) := by omega
      simp [lcG_at, asgTg, wipeE, whole_ev, h2]
    have l1 := line p.1 hv.1.1 hv.2.1
    have l2 := line p.2 hv.1.2 hv.2.2
    have e1 : (p.1.length : Int) = T.length := by omega
    have e2 : (p.2.length : Int) = T.length := by omega
    exact ⟨_, by simp [stF_at, asgTg, forLoop, nL, l1, l2, nl, e1, e2, hv.1.1, hv.1.2]; rfl, _, _, _, rfl⟩
  · rintro ρ ⟨a, b, c, rfl⟩
    simp
theorem bls_true (n : Nat) : blsD (List.replicate n (.bl true)) = some (List.replicate n true) := by
  induction n with
  | zero => rfl
  | succ n ih => simp [List.replicate_succ, blsD, ih]
theorem zip_rise : ∀ (l : List Nat), l.Pairwise (· < ·) → ∀ x ∈ zipD (l.map fun (n : Nat) => D.int n) (l.tail.map fun (n : Nat) => D.int n), ∃ a b : Nat, a < b ∧ x = .tup [.int a, .int b]
  | [], _, x, h => by cases h
  | [a], _, x, h => by cases h
  | a :: b :: l, hp, x, h => by
    have h : x ∈ D.tup [.int a, .int b] :: zipD ((b :: l).map fun (n : Nat) => D.int n) (((b :: l).tail).map fun (n : Nat) => D.int n) := h
    rcases List.mem_cons.mp h with rfl | h
    · exact ⟨a, b, (List.pairwise_cons.mp hp).1 b List.mem_cons_self, rfl⟩
    · exact zip_rise (b :: l) (List.pairwise_cons.mp hp).2 x h
theorem rising_ev {l : List Nat} (h : l.Pairwise (· < ·)) (k : Nat) {t : Int} (ht : ∀ g ∈ l, (g : Int) ≤ t) : callK tab (k + 2) 5 [nL l, .int t] = ret (.bl true) := by
  rw [show callK tab (k + 2) 5 [nL l, .int t] = runB (callK tab (k + 1)) 4 b_5 [nL l, .int t] from rfl]
  simp [run_at, b_5, nL]
  rw [lc_none fun x hx => by
    obtain ⟨n, hn, rfl⟩ := List.mem_map.mp hx
    have := ht n hn
    simp [lcG_at, asgTg, wipeE, whole_ev, this]]
  have ec : cut (l.map fun (n : Nat) => D.int n) (some 1) none = l.tail.map fun (n : Nat) => D.int n := by
    simp [cut, clip]
    cases l with
    | nil => rfl
    | cons a l => simp; exact List.take_of_length_le (by simp)
  simp [nl, ec]
  rw [lc_map (h := fun _ => some (.bl true)) fun x hx => by
    obtain ⟨a, b, hab, rfl⟩ := zip_rise l h x (by simpa using hx)
    have : (a : Int) < (b : Int) := by omega
    simp [lcG_at, asgTg, setAll, wipeE, this]]
  simp [fm_const, bls_true]
theorem kind_ev {K : Kd} (v : K.ok) (k : Nat) : callK tab (k + 3) 7 [K.enc] = ret (.bl true) := by
  rw [show callK tab (k + 3) 7 [K.enc] = runB (callK tab (k + 2)) 1 b_7 [K.enc] from rfl]
  have h1 := table_ev v.tv k 24 (by have := v.few; omega)
  have h2 := rising_ev v.rise k (t := (K.T.length : Int) - 1) fun g hg => by have := v.lt g hg; omega
  have h3 : op1 .len K.T.enc = some (.int K.T.length) := by simp [Tb.enc]
  simp [run_at, b_7, Kd.enc, place, whole_ev, h1, h2, h3]
theorem needkind_ev {K : Kd} (v : K.ok) (k : Nat) : callK tab (k + 4) 8 [K.enc] = ret .non := by
  rw [show callK tab (k + 4) 8 [K.enc] = runB (callK tab (k + 3)) 1 b_8 [K.enc] from rfl]
  simp [run_at, b_8, kind_ev v]
theorem shape_ev : ∀ (k : Nat) (r : Rw) (d : Nat), r.dp ≤ d → r.dp + 1 < k → r.sz ≤ 60 → callK tab k 1 [.int 2, .tup r.its, .int d] = ret (.int r.sz)
  | 0, r, d, _, h, _ => absurd h (by omega)
  | k + 1, r, d, hd, h, hz => by
    rw [show callK tab (k + 1) 1 [.int 2, .tup r.its, .int d] = runB (callK tab k) 6 b_1 [.int 2, .tup r.its, .int d] from rfl]
    have h0 : (!decide (r.its = []) && ((d : Int) == 0)) = false := by
      cases r with
      | nil => rfl
      | cons s i r =>
        simp [Rw.dp] at hd
        simp
        intro _; omega
    obtain ⟨j, rfl⟩ : ∃ j, k = j + 1 := ⟨k - 1, by omega⟩
    have e1 : (bif !decide (r.its = []) then (ret (D.bl ((d : Int) == 0)) : M D) else ret (.bl false)) = ret (.bl false) := by
      cases hq : decide (r.its = []) with
      | true => rfl
      | false => rw [hq] at h0; simp only [Bool.not_false, Bool.true_and] at h0; rw [h0]; rfl
    simp [run_at, b_1, eqO_tup_nil, e1, asgTg]
    refine for_row (fun q ρ => ∃ (t : Nat) (a b : Option D), q.dp ≤ d ∧ q.dp < j + 1 ∧ t + q.sz = r.sz ∧ ρ = [some (.int 2), some r.enc, some (.int d), some (.int t), a, b]) ⟨0, none, none, by omega, by omega, by omega, rfl⟩ ?_ ?_
    · rintro s i q ρ ⟨t, a, b, h1, h2, h3, rfl⟩
      simp only [Rw.dp, Rw.sz] at h1 h2 h3
      have ih := shape_ev (j + 1) i (d - 1) (by omega) (by omega) (by omega)
      have e2 : ((d : Int) - 1) = ((d - 1 : Nat) : Int) := by omega
      have e3 : ¬ ((60 : Int) < (t : Int) + (i.sz : Int) + 1) := by omega
      refine ⟨_, by simp [stF_at, asgTg, place, whole_bI, e2, ih, e3]; rfl, t + i.sz + 1, some (.tup [bI s, .tup i.its]), some (.int i.sz), by omega, by omega, by omega, ?_⟩
      simp
    · rintro ρ ⟨t, a, b, h1, h2, h3, rfl⟩
      simp [Rw.sz] at h3
      simp [h3]
theorem neednest_ev {r : Rw} (h : r.dp ≤ 12) (hz : r.sz ≤ 60) (k : Nat) (hk : 14 ≤ k) : callK tab (k + 2) 4 [.int 2, .tup r.its] = ret .non := by
  rw [show callK tab (k + 2) 4 [.int 2, .tup r.its] = runB (callK tab (k + 1)) 2 b_4 [.int 2, .tup r.its] from rfl]
  have e : callK tab (k + 1) 2 [.int 2, .tup r.its] = ret (.bl true) := by
    rw [show callK tab (k + 1) 2 [.int 2, .tup r.its] = runB (callK tab k) 2 b_2 [.int 2, .tup r.its] from rfl]
    have := shape_ev k r 12 h (by omega) hz
    simp at this
    simp [run_at, b_2, this]
  simp [run_at, b_4, e]
end Nm
end
section
set_option Elab.async false
set_option linter.all false
set_option maxRecDepth 100000
set_option maxHeartbeats 1000000
namespace Nm
open Nk
theorem bI_whole (k : Nat) (s : Bool) (t : Int) (h : t = 1) : callK tab (k + 1) 0 [bI s, .int 0, .int t] = ret (.bl true) := by subst h; exact whole_bI k s
theorem marks_ev {m : Nat} {a b : List Bool} (ha : a.length = m) (hb : b.length = m) (k : Nat) : callK tab (k + 2) 17 [.int 2, .tup [bL a, bL b], .int m] = ret (.bl true) := by
  rw [show callK tab (k + 2) 17 [.int 2, .tup [bL a, bL b], .int m] = runB (callK tab (k + 1)) 5 b_17 [.int 2, .tup [bL a, bL b], .int m] from rfl]
  have line : ∀ (l : List Bool) (x1 x2 x3 : Option D), lcLoop (lcG (callK tab (k + 1)) (.var 4) (.nm 4) (.cons (.not (.call 0 (.cons (.var 4) (.cons (.cst (.int 0)) (.cons (.o2 .sub (.var 0) (.cst (.int 1))) .nil))))) .nil) [4] [some (.int 2), x1, x2, x3, none]) (l.map bI) = ret [] := fun l x1 x2 x3 => lc_none fun x hx => by
    obtain ⟨n, hn, rfl⟩ := List.mem_map.mp hx
    simp [lcG_at, asgTg, wipeE, whole_bI]
  simp [run_at, b_17, stF_at, asgTg, forLoop, bL, line, nl, ha, hb]
theorem notes_ev {l : Ln} (v : Lv l) (k : Nat) : callK tab (k + 2) 18 [.int 2, l.enc] = ret (.bl true) := by
  rw [show callK tab (k + 2) 18 [.int 2, l.enc] = runB (callK tab (k + 1)) 4 b_18 [.int 2, l.enc] from rfl]
  have hp := v.pos
  have ht := v.top
  have h1 : (1 : Int) ≤ (l.length : Int) := by omega
  have h2 : (l.length : Int) ≤ 2 := by omega
  simp [run_at, b_18, Ln.enc, h1, h2]
  refine for_all (fun ρ => ∃ a b, ρ = [some (.int 2), some l.enc, a, b]) ⟨none, none, rfl⟩ ?_ ?_
  · rintro x hx ρ ⟨a, b, rfl⟩
    obtain ⟨p, hp, rfl⟩ := List.mem_map.mp hx
    have hv := v.ok p hp
    have e1 : ((p.1.2 : Nat) : Int) ≤ (l.length : Int) - 1 := by omega
    have e2 : ((p.2.2 : Nat) : Int) ≤ (l.length : Int) - 1 := by omega
    exact ⟨_, by simp [stF_at, asgTg, forLoop, prD, place, whole_bI, whole_ev, Ln.enc, e1, e2]; rfl, _, _, rfl⟩
  · rintro ρ ⟨a, b, rfl⟩
    simp
theorem step_ev {S : St} (ok : S.ok) (k : Nat) : callK tab (k + 3) 19 [.int 2, S.enc] = ret (.bl true) := by
  rw [show callK tab (k + 3) 19 [.int 2, S.enc] = runB (callK tab (k + 2)) 3 b_19 [.int 2, S.enc] from rfl]
  cases S with
  | mark T a b =>
    have h1 := table_ev ok.1 k 3 (by have := ok.2.1; omega)
    have h2 := marks_ev ok.2.2.1 ok.2.2.2 k
    have h3 : op1 .len T.enc = some (.int T.length) := by simp [Tb.enc]
    simp [run_at, b_19, St.enc, place, asgTg, inO, strsD, h1, h2, h3]
  | about l => simp [run_at, b_19, St.enc, place, asgTg, inO, strsD, notes_ev ok k]
  | drop w => simp [run_at, b_19, St.enc, place, asgTg, inO, strsD, whole_bI]
  | open_ w => simp [run_at, b_19, St.enc, place, asgTg, inO, strsD, whole_bI]
  | wrap w v => simp [run_at, b_19, St.enc, place, asgTg, inO, strsD, whole_bI]
  | double w => simp [run_at, b_19, St.enc, place, asgTg, inO, strsD, whole_bI]
  | turn => simp [run_at, b_19, St.enc, place, asgTg, inO, strsD]
  | only rt w => cases rt <;> simp [run_at, b_19, St.enc, place, asgTg, inO, strsD, whole_bI]
/-! ### parts -/
inductive Pt where
  | do_ (s : St) | row (l : List Pt) | if_ (K : Kd) (a b : Pt) | ch (o : Bool) (a b : Pt) | times (n : Nat) (p : Pt) | again (n : Nat) (p : Pt) (d c : Nat)
def who (o : Bool) : D := .str (cond o .ours .theirs)
mutual
def Pt.enc : Pt → D
  | .do_ s => .tup [.str .do_, s.enc]
  | .row l => .tup [.str .row, .tup (encs l)]
  | .if_ K a b => .tup [.str .if_, K.enc, a.enc, b.enc]
  | .ch o a b => .tup [who o, a.enc, b.enc]
  | .times n p => .tup [.str .times, .int n, p.enc]
  | .again n p d c => .tup [.str .again, .int n, p.enc, .tup [.int d, .int c]]
def encs : List Pt → List D
  | [] => []
  | p :: l => p.enc :: encs l
end
theorem encs_map (l : List Pt) : encs l = l.map Pt.enc := by
  induction l with
  | nil => rfl
  | cons p l ih => simp [encs, ih]
@[simp] theorem encs_length (l : List Pt) : (encs l).length = l.length := by rw [encs_map]; simp
@[simp] theorem encs_append (a b : List Pt) : encs (a ++ b) = encs a ++ encs b := by simp [encs_map]
mutual
def Pt.cnt : Pt → Nat
  | .do_ _ => 1
  | .row l => 1 + cnts l
  | .if_ _ a b => 1 + (a.cnt + b.cnt)
  | .ch _ a b => 1 + (a.cnt + b.cnt)
  | .times _ p => 1 + p.cnt
  | .again _ p _ _ => 1 + p.cnt
def cnts : List Pt → Nat
  | [] => 0
  | p :: l => p.cnt + cnts l
end
def Pt.ok : Nat → Pt → Prop
  | 0, _ => False
  | _ + 1, .do_ s => s.ok
  | d + 1, .row l => l.length ≤ 4 ∧ ∀ p ∈ l, Pt.ok d p
  | d + 1, .if_ K a b => K.ok ∧ Pt.ok d a ∧ Pt.ok d b
  | d + 1, .ch _ a b => Pt.ok d a ∧ Pt.ok d b
  | d + 1, .times n p => n ≤ 100 ∧ Pt.ok d p
  | _ + 1, .again .. => False
theorem Pt.ok_succ : ∀ (d : Nat) (p : Pt), Pt.ok d p → Pt.ok (d + 1) p
  | 0, _, h => h.elim
  | d + 1, .do_ s, h => h
  | d + 1, .row l, h => ⟨h.1, fun p hp => ok_succ d p (h.2 p hp)⟩
  | d + 1, .if_ K a b, h => ⟨h.1, ok_succ d a h.2.1, ok_succ d b h.2.2⟩
  | d + 1, .ch _ a b, h => ⟨ok_succ d a h.1, ok_succ d b h.2⟩
  | d + 1, .times n p, h => ⟨h.1, ok_succ d p h.2⟩
  | d + 1, .again .., h => h.elim
theorem Pt.ok_le {d e : Nat} {p : Pt} (h : Pt.ok d p) (le : d ≤ e) : Pt.ok e p := by
  induction le with
  | refl => exact h
  | step _ ih => exact Pt.ok_succ _ _ ih
theorem nosrc_K (K : Kd) : nosrc K.enc = true := by simp [Kd.enc, nosrc, nosrcs, nosrc_T]
theorem nosrc_bL (l : List Bool) : nosrc (bL l) = true := by
  simp only [bL, nosrc]
  induction l with
  | nil => rfl
  | cons a l ih => simp [nosrcs, nosrc, ih]
theorem nosrc_S (S : St) : nosrc S.enc = true := by
  cases S with
  | mark T a b => simp [St.enc, nosrc, nosrcs, nosrc_T, nosrc_bL]
  | about l => simp [St.enc, nosrc, nosrcs, nosrc_Ln]
  | only rt w => simp [St.enc, nosrc, nosrcs]
  | _ => simp [St.enc, nosrc, nosrcs]
mutual
theorem nosrc_P : ∀ p : Pt, nosrc p.enc = true
  | .do_ s => by simp [Pt.enc, nosrc, nosrcs, nosrc_S]
  | .row l => by simp [Pt.enc, nosrc, nosrcs, nosrcs_P l]
  | .if_ K a b => by simp [Pt.enc, nosrc, nosrcs, nosrc_K, nosrc_P a, nosrc_P b]
  | .ch o a b => by simp [Pt.enc, who, nosrc, nosrcs, nosrc_P a, nosrc_P b]
  | .times n p => by simp [Pt.enc, nosrc, nosrcs, nosrc_P p]
  | .again n p d c => by simp [Pt.enc, nosrc, nosrcs, nosrc_P p]
theorem nosrcs_P : ∀ l : List Pt, nosrcs (encs l) = true
  | [] => rfl
  | p :: l => by simp [encs, nosrcs, nosrc_P p, nosrcs_P l]
end
theorem tup_of (p : Pt) : ∃ t l, p.enc = .tup (.str t :: l) := by
  cases p with
  | ch o a b => exact ⟨_, _, rfl⟩
  | _ => exact ⟨_, _, rfl⟩
theorem eqO_P_nil (t : Tag) (l : List D) (h : nosrc (.tup (.str t :: l)) = true) : eqO (.tup (.str t :: l)) (.tup []) = some false := by
  simp [nosrc, nosrcs] at h
  rw [eqO_tup_nil (by simp [nosrcs, nosrc, h])]
  rfl
/-- all of some parts are parts -/
theorem parts_ev (k : Nat) (l : List Pt) (d : Nat) (h : ∀ p ∈ l, callK tab k 33 [.int 2, p.enc, .int d] = ret (.bl true)) : callK tab (k + 1) 32 [.int 2, .tup (encs l), .int d] = ret (.bl true) := by
  rw [show callK tab (k + 1) 32 [.int 2, .tup (encs l), .int d] = runB (callK tab k) 4 b_32 [.int 2, .tup (encs l), .int d] from rfl]
  simp [run_at, b_32]
  rw [lc_map (h := fun _ => some (.bl true)) fun x hx => by
    rw [encs_map] at hx
    obtain ⟨p, hp, rfl⟩ := List.mem_map.mp hx
    simp [lcG_at, asgTg, wipeE, h p hp]]
  simp [fm_const, bls_true]
theorem part_ev : ∀ (d k : Nat) (p : Pt), Pt.ok d p → 2 * d + 4 ≤ k → callK tab k 33 [.int 2, p.enc, .int d] = ret (.bl true)
  | 0, _, _, h, _ => h.elim
  | d + 1, k, p, h, hk => by
    obtain ⟨j, rfl⟩ : ∃ j, k = j + 5 := ⟨k - 5, by omega⟩
    have hd : ((d : Int) + 1 == 0) = false := by
      rw [beq_eq_false_iff_ne]; omega
    have tl : ∀ l : List Pt, (∀ p ∈ l, Pt.ok d p) → callK tab (j + 4) 32 [.int 2, .tup (encs l), .int d] = ret (.bl true) := fun l hl => parts_ev (j + 3) l d fun p hp => part_ev d (j + 3) p (hl p hp) (by omega)
    rw [show callK tab (j + 5) 33 [.int 2, p.enc, .int ((d + 1 : Nat))] = runB (callK tab (j + 4)) 6 b_33 [.int 2, p.enc, .int ((d + 1 : Nat))] from rfl]
    have ns := nosrc_P p
    cases p with
    | do_ s =>
      simp only [Pt.enc] at ns ⊢
      simp [run_at, b_33, eqO_P_nil _ _ ns, hd, place, asgTg, setAll, step_ev (show s.ok from h)]
    | row l =>
      simp only [Pt.enc] at ns ⊢
      have h4 : (l.length : Int) ≤ 4 := by have := h.1; omega
      simp [run_at, b_33, eqO_P_nil _ _ ns, hd, place, asgTg, setAll, h4, tl l h.2]
    | if_ K a b =>
      simp only [Pt.enc] at ns ⊢
      have e := tl [a, b] fun p hp => by
        simp at hp
        rcases hp with rfl | rfl
        · exact h.2.1
        · exact h.2.2
      have e2 : op2 .ix K.enc (.int 0) = some (.int 2) := by simp [Kd.enc, place]
      have e3 := kind_ev h.1 (j + 1)
      simp only [encs] at e
      simp [run_at, b_33, eqO_P_nil _ _ ns, hd, place, asgTg, setAll, e, e2, e3, cut, clip]
    | ch o a b =>
      have e := tl [a, b] fun p hp => by
        simp at hp
        rcases hp with rfl | rfl
        · exact h.1
        · exact h.2
      simp only [encs] at e
      cases o <;> simp only [Pt.enc, who, cond] at ns ⊢ <;> simp [run_at, b_33, eqO_P_nil _ _ ns, hd, place, asgTg, setAll, e, cut, clip, inO, strsD]
    | times n p =>
      simp only [Pt.enc] at ns ⊢
      have e := tl [p] fun q hq => by
        simp at hq
        subst hq
        exact h.2
      have h4 : (n : Int) ≤ 1000000000000000000000000000000 := by have := h.1; omega
      simp only [encs] at e
      simp [run_at, b_33, eqO_P_nil _ _ ns, hd, place, asgTg, setAll, whole_ev, h4, e, cut, clip]
    | again n p d c => exact h.elim
end Nm
end
section
set_option Elab.async false
set_option linter.all false
set_option maxRecDepth 100000
set_option maxHeartbeats 1000000
namespace Nm
open Nk
def Pt.ins : Pt → List Pt
  | .do_ _ => []
  | .row l => l
  | .if_ _ a b => [a, b]
  | .ch _ a b => [a, b]
  | .times _ p => [p]
  | .again _ p _ _ => [p]
theorem cnt_ins (p : Pt) : p.cnt = 1 + cnts p.ins := by
  cases p <;> simp [Pt.cnt, Pt.ins, cnts]
theorem ins_ok {d : Nat} {p : Pt} (h : Pt.ok (d + 1) p) : ∀ q ∈ p.ins, Pt.ok d q := by
  cases p with
  | do_ s => intro q hq; cases hq
  | row l => exact h.2
  | if_ K a b => intro q hq; simp [Pt.ins] at hq; rcases hq with rfl | rfl; exact h.2.1; exact h.2.2
  | ch o a b => intro q hq; simp [Pt.ins] at hq; rcases hq with rfl | rfl; exact h.1; exact h.2
  | times n p => intro q hq; simp [Pt.ins] at hq; subst hq; exact h.2
  | again => exact h.elim
theorem inner_ev {d : Nat} {p : Pt} (h : Pt.ok d p) (k : Nat) : callK tab (k + 1) 31 [p.enc] = ret (.tup (encs p.ins)) := by
  cases d with
  | zero => exact h.elim
  | succ d =>
    rw [show callK tab (k + 1) 31 [p.enc] = runB (callK tab k) 1 b_31 [p.enc] from rfl]
    cases p with
    | do_ s => simp [run_at, b_31, Pt.enc, place, inO, strsD, Pt.ins, encs]
    | row l => simp [run_at, b_31, Pt.enc, place, inO, strsD, Pt.ins, encs]
    | if_ K a b => simp [run_at, b_31, Pt.enc, place, inO, strsD, Pt.ins, encs, cut, clip]
    | ch o a b => cases o <;> simp [run_at, b_31, Pt.enc, who, place, inO, strsD, Pt.ins, encs, cut, clip]
    | times n p => simp [run_at, b_31, Pt.enc, place, inO, strsD, Pt.ins, encs, cut, clip]
    | again => exact h.elim
theorem within_ev {d : Nat} {p : Pt} (h : Pt.ok d p) (k : Nat) : callK tab (k + 1) 67 [p.enc] = ret (.tup (encs p.ins)) := by
  cases d with
  | zero => exact h.elim
  | succ d =>
    rw [show callK tab (k + 1) 67 [p.enc] = runB (callK tab k) 1 b_67 [p.enc] from rfl]
    cases p with
    | do_ s => simp [run_at, b_67, Pt.enc, place, inO, strsD, Pt.ins, encs]
    | row l => simp [run_at, b_67, Pt.enc, place, inO, strsD, Pt.ins, encs]
    | if_ K a b => simp [run_at, b_67, Pt.enc, place, inO, strsD, Pt.ins, encs, cut, clip]
    | ch o a b => cases o <;> simp [run_at, b_67, Pt.enc, who, place, inO, strsD, Pt.ins, encs, cut, clip]
    | times n p => simp [run_at, b_67, Pt.enc, place, inO, strsD, Pt.ins, encs, cut, clip]
    | again => exact h.elim
theorem lc_parts {g : D → M (Option D)} : ∀ (l : List Pt), (∀ p ∈ l, g p.enc = ret (some (.int p.cnt))) → lcLoop g (encs l) = ret (l.map fun p => D.int p.cnt)
  | [], _ => rfl
  | p :: l, h => by
    rw [encs, lcLoop, h p List.mem_cons_self, r_bnd, lc_parts l fun q hq => h q (List.mem_cons_of_mem _ hq), r_bnd]
    rfl
theorem ints_cnt (l : List Pt) : intsD (l.map fun p => D.int p.cnt) = some (l.map fun p => (p.cnt : Int)) := by
  induction l with
  | nil => rfl
  | cons p l ih => simp [intsD, ih]
theorem sum_cnt (l : List Pt) : (l.map fun p => (p.cnt : Int)).sum = (cnts l : Nat) := by
  induction l with
  | nil => rfl
  | cons p l ih => simp [cnts, ih]
theorem many_ev : ∀ (d k : Nat) (p : Pt), Pt.ok d p → d + 1 ≤ k → callK tab k 34 [p.enc] = ret (.int p.cnt)
  | 0, _, _, h, _ => h.elim
  | d + 1, k, p, h, hk => by
    obtain ⟨j, rfl⟩ : ∃ j, k = j + 2 := ⟨k - 2, by omega⟩
    rw [show callK tab (j + 2) 34 [p.enc] = runB (callK tab (j + 1)) 2 b_34 [p.enc] from rfl]
    simp [run_at, b_34, inner_ev h]
    rw [lc_parts p.ins fun q hq => by
      have ih := many_ev d (j + 1) q (ins_ok h q hq) (by omega)
      simp [lcG_at, asgTg, wipeE, ih]]
    simp [ints_cnt, sum_cnt, cnt_ins p]
theorem lmany_ev : ∀ (d k : Nat) (p : Pt), Pt.ok d p → d + 1 ≤ k → callK tab k 68 [p.enc] = ret (.int p.cnt)
  | 0, _, _, h, _ => h.elim
  | d + 1, k, p, h, hk => by
    obtain ⟨j, rfl⟩ : ∃ j, k = j + 2 := ⟨k - 2, by omega⟩
    rw [show callK tab (j + 2) 68 [p.enc] = runB (callK tab (j + 1)) 2 b_68 [p.enc] from rfl]
    simp [run_at, b_68, within_ev h]
    rw [lc_parts p.ins fun q hq => by
      have ih := lmany_ev d (j + 1) q (ins_ok h q hq) (by omega)
      simp [lcG_at, asgTg, wipeE, ih]]
    simp [ints_cnt, sum_cnt, cnt_ins p]
def prog (p : Pt) : D := .tup [.int 2, p.enc]
theorem needprog_ev {p : Pt} (h : Pt.ok 5 p) (hc : p.cnt ≤ 12) (k : Nat) (hk : 14 ≤ k) : callK tab (k + 2) 36 [prog p] = ret .non := by
  rw [show callK tab (k + 2) 36 [prog p] = runB (callK tab (k + 1)) 1 b_36 [prog p] from rfl]
  have e : callK tab (k + 1) 35 [prog p] = ret (.bl true) := by
    rw [show callK tab (k + 1) 35 [prog p] = runB (callK tab k) 1 b_35 [prog p] from rfl]
    have e1 := part_ev 5 k p h (by omega)
    have e2 := many_ev 5 k p h (by omega)
    have e3 : (p.cnt : Int) ≤ 12 := by omega
    obtain ⟨j, rfl⟩ : ∃ j, k = j + 1 := ⟨k - 1, by omega⟩
    simp at e1
    simp [run_at, b_35, prog, place, whole_ev, e1, e2, e3]
  simp [run_at, b_36, e]
theorem needstands_ev (p : Pt) (K : Kd) (k : Nat) : callK tab (k + 1) 39 [prog p, .tup [K.enc]] = ret .non := by
  rw [show callK tab (k + 1) 39 [prog p, .tup [K.enc]] = runB (callK tab k) 3 b_39 [prog p, .tup [K.enc]] from rfl]
  simp [run_at, b_39, forLoop, stF_at, asgTg, prog, Kd.enc, place]
/-! ### how much a part can be done -/
mutual
def Pt.wt : Pt → Nat
  | .do_ _ => 1
  | .row l => 1 + wts l
  | .if_ _ a b => 1 + max a.wt b.wt
  | .ch _ a b => 1 + max a.wt b.wt
  | .times n p => 1 + n * (p.wt + 1)
  | .again n p _ _ => 1 + n * (p.wt + 1)
def wts : List Pt → Nat
  | [] => 0
  | p :: l => p.wt + wts l
end
theorem wts_append (a b : List Pt) : wts (a ++ b) = wts a + wts b := by
  induction a with
  | nil => simp [wts]
  | cons p l ih => simp [wts, ih]; omega
theorem wts_replicate (n : Nat) (p : Pt) : wts (List.replicate n p) = n * p.wt := by
  induction n with
  | zero => simp [wts]
  | succ n ih => simp [List.replicate_succ, wts, ih, Nat.succ_mul]; omega
theorem wts_rev (a : List Pt) : wts a.reverse = wts a := by
  induction a with
  | nil => rfl
  | cons p l ih => simp [wts_append, wts, ih]; omega
theorem wt_pos (p : Pt) : 0 < p.wt := by cases p <;> simp [Pt.wt] <;> omega
/-- where one comes to -/
inductive Out where
  | fin (r : Rw) | ch (o : Bool) (a b : Pt) (t : List Pt) (r : Rw) | bad
def goL : List Pt → Rw → Out
  | [], r => .fin r
  | .do_ s :: t, r => match done s r with
    | none => .bad
    | some r' => goL t r'
  | .row l :: t, r => goL (l ++ t) r
  | .times n p :: t, r => goL (List.replicate n p ++ t) r
  | .if_ K a b :: t, r => if K.has r then goL (a :: t) r else goL (b :: t) r
  | .ch o a b :: t, r => .ch o a b t r
  | .again .. :: _, _ => .bad
termination_by l => wts l
decreasing_by
  all_goals simp only [wts, Pt.wt, wts_append, wts_replicate, Nat.mul_add]
  all_goals omega
end Nm
end
section
set_option Elab.async false
set_option linter.all false
set_option maxRecDepth 100000
set_option maxHeartbeats 1000000
namespace Nm
open Nk
inductive Tr where
  | fin (r : Rw) | nod (o : Bool) (a b : Tr)
def joinT (o : Bool) : Option Tr → Option Tr → Option Tr
  | some x, some y => some (.nod o x y)
  | _, _ => none
def treeO (f : List Pt → Rw → Option Tr) : Out → Option Tr
  | .bad => none
  | .fin r => some (.fin r)
  | .ch o a b t r => joinT o (f (a :: t) r) (f (b :: t) r)
def treeL : Nat → List Pt → Rw → Option Tr
  | 0, T, r => treeO (fun _ _ => none) (goL T r)
  | c + 1, T, r => treeO (treeL c) (goL T r)
theorem treeL_go {T T' : List Pt} {r r' : Rw} (c : Nat) (h : goL T r = goL T' r') : treeL c T r = treeL c T' r' := by
  cases c <;> simp only [treeL, h]
def leaves : Tr → List Bool → List (List Bool × Rw)
  | .fin r, ps => [(ps, r)]
  | .nod _ a b, ps => leaves a (ps ++ [false]) ++ leaves b (ps ++ [true])
def lfD (x : List Bool × Rw) : D := .tup [.tup (x.1.map bI), .tup x.2.its]
def endsD : Option Tr → List Bool → D
  | none, _ => .non
  | some t, ps => .lst ((leaves t ps).map lfD)
theorem leaves_len : ∀ (c : Nat) (T : List Pt) (r : Rw) (t : Tr) (ps : List Bool), treeL c T r = some t → (leaves t ps).length ≤ 2 ^ c
  | 0, T, r, t, ps, h => by
    simp only [treeL] at h
    cases hg : goL T r with
    | bad => rw [hg] at h; cases h
    | fin r' => rw [hg] at h; cases h; simp [leaves]
    | ch o a b t' r' => rw [hg] at h; cases h
  | c + 1, T, r, t, ps, h => by
    simp only [treeL] at h
    have h2 : 2 ^ (c + 1) = 2 ^ c + 2 ^ c := by rw [Nat.pow_succ]; omega
    have hp := Nat.two_pow_pos c
    cases hg : goL T r with
    | bad => rw [hg] at h; cases h
    | fin r' => rw [hg] at h; cases h; simp [leaves]; omega
    | ch o a b t' r' =>
      rw [hg] at h
      simp only [treeO] at h
      cases h1 : treeL c (a :: t') r' with
      | none => rw [h1] at h; cases h
      | some x =>
        cases h3 : treeL c (b :: t') r' with
        | none => rw [h1, h3] at h; cases h
        | some y =>
          rw [h1, h3] at h
          cases h
          have e1 := leaves_len c _ _ x (ps ++ [false]) h1
          have e2 := leaves_len c _ _ y (ps ++ [true]) h3
          simp only [leaves, List.length_append]
          omega
def wparts : Ss → E × Ss
  | .cons (.whl c b) _ => (c, b)
  | _ => (.cst .non, .nil)
def tl1 : Ss → Ss
  | .cons _ r => r
  | s => s
/-- what follows a turn of a while -/
def nextW (f : Env → M Fl) : Fl → M Fl
  | .nx ρ => f ρ
  | .rt d => ret (.rt d)
@[simp] theorem nextW_nx (f : Env → M Fl) (ρ : Env) : nextW f (.nx ρ) = f ρ := nd rfl
@[simp] theorem nextW_rt (f : Env → M Fl) (d : D) : nextW f (.rt d) = ret (.rt d) := nd rfl
theorem wl_step (c : Env → M Bool) (g : Env → M Fl) (n : Nat) (ρ : Env) : whlLoop c g (n + 1) ρ = bnd (c ρ) fun b => cond b (bnd (g ρ) (nextW fun ρ' => whlLoop c g n ρ')) (ret (.nx ρ)) := by
  rw [whlLoop]
  congr
theorem len_wts (T : List Pt) : T.length ≤ wts T := by
  induction T with
  | nil => exact Nat.le_refl _
  | cons p T ih => have := wt_pos p; simp [wts]; omega
theorem rep_one (n : Nat) (p : Pt) : rep n [p.enc] = encs (List.replicate n p) := by
  unfold rep
  rw [encs_map]
  induction n with
  | zero => rfl
  | succ n ih => simp [List.replicate_succ] at ih ⊢
/-- parts that are valid -/
def Pl (T : List Pt) : Prop := ∀ p ∈ T, Pt.ok 5 p
theorem Pl.tail {p : Pt} {T : List Pt} (h : Pl (p :: T)) : Pl T := fun q hq => h q (List.mem_cons_of_mem _ hq)
theorem Pl.cons {p : Pt} {T : List Pt} (h1 : Pt.ok 4 p) (h : Pl T) : Pl (p :: T) := fun q hq => by
  rcases List.mem_cons.mp hq with rfl | hq
  · exact Pt.ok_succ _ _ h1
  · exact h q hq
theorem Pl.app {l T : List Pt} (h1 : ∀ p ∈ l, Pt.ok 4 p) (h : Pl T) : Pl (l ++ T) := fun q hq => by
  rcases List.mem_append.mp hq with hq | hq
  · exact Pt.ok_succ _ _ (h1 q hq)
  · exact h q hq
/-- rows that are small -/
def Rs (r : Rw) : Prop := r.sz ≤ 300 ∧ r.dp ≤ 60
theorem done_rs {S : St} {r r' : Rw} (h : done S r = some r') : Rs r' := by
  unfold done at h
  split at h
  · cases h
  · split at h
    · cases h; assumption
    · cases h
theorem encs_nil (T : List Pt) : decide (encs T = []) = T.isEmpty := by cases T <;> rfl
abbrev c72 : E := (wparts b_72).1
abbrev w72 : Ss := (wparts b_72).2
abbrev t72 : Ss := tl1 b_72
theorem b72 : b_72 = .cons (.whl c72 w72) t72 := rfl
def e72 (T : List Pt) (d : D) (ps : List Bool) (x3 x4 x5 x6 : Option D) : Env := [some (.tup (encs T)), some d, some (.tup (ps.map bI)), x3, x4, x5, x6]
theorem cond72 (k : Nat) (T : List Pt) (d : D) (ps : List Bool) (x3 x4 x5 x6 : Option D) : whC (callK tab k) c72 (e72 T d ps x3 x4 x5 x6) = ret (!T.isEmpty) := by
  simp [whC, c72, wparts, b_72, e72, eqO_tup_nil (nosrcs_P T), encs_nil]
theorem cutT (p : Pt) (T : List Pt) : cut (encs (p :: T)) (some 1) none = encs T := by
  simp [cut, clip, encs]
  exact List.take_of_length_le (by simp)
theorem oD_none {o : Option Rw} (h : o = none) : oD o = .non := by rw [h]; rfl
/-- with no row left -/
theorem none72 (k n : Nat) (T : List Pt) (ps : List Bool) (x3 x4 x5 x6 : Option D) : (bnd (whlLoop (whC (callK tab k) c72) (whB (callK tab k) w72) (n + 1) (e72 T .non ps x3 x4 x5 x6)) fun a => bnd (thenS (fun ρ => evSs (callK tab k) t72 ρ) a) endD) = ret .non := by
  rw [wl_step, cond72]
  cases T with
  | nil => simp [e72, t72, tl1, b_72]
  | cons p T =>
    obtain ⟨t, l, hp⟩ := tup_of p
    have hc := cutT p T
    simp only [encs, hp] at hc
    simp [whB, e72, w72, wparts, b_72, encs, setAll, asgTg, place, hp, hc]
theorem ends_loop (k c : Nat) (ps : List Bool) (hps : ps.length + c = 7) (hk : 124 ≤ k) (ih : ∀ c', c = c' + 1 → ∀ (T : List Pt) (r : Rw) (ps' : List Bool), ps'.length + c' = 7 → Pl T → wts T ≤ 900 → Rs r → callK tab k 72 [.tup (encs T), .tup r.its, .tup (ps'.map bI)] = ret (endsD (treeL c' T r) ps')) : ∀ (n : Nat) (T : List Pt) (r : Rw) (x3 x4 x5 x6 : Option D), wts T + 2 ≤ n → Pl T → wts T ≤ 900 → Rs r → (bnd (whlLoop (whC (callK tab k) c72) (whB (callK tab k) w72) n (e72 T (.tup r.its) ps x3 x4 x5 x6)) fun a => bnd (thenS (fun ρ => evSs (callK tab k) t72 ρ) a) endD) = ret (endsD (treeL c T r) ps)
  | 0, T, r, _, _, _, _, hn, _, _, _ => by omega
  | n + 1, T, r, x3, x4, x5, x6, hn, hT, hw, hr => by
    obtain ⟨j, rfl⟩ : ∃ j, k = j + 2 := ⟨k - 2, by omega⟩
    rw [wl_step, cond72]
    cases T with
    | nil =>
      have e : treeL c [] r = some (.fin r) := by cases c <;> simp [treeL, goL, treeO]
      simp [e72, t72, tl1, b_72, e, endsD, leaves, lfD]
    | cons p T =>
      have hc := cutT p T
      have hp := hT p List.mem_cons_self
      have hl := len_wts T
      cases p with
      | do_ s =>
        simp only [wts, Pt.wt] at hn hw
        have e1 := done_ev (show s.ok from hp) (j + 1) r (by have := hr.2; omega) hr.1
        have go : bnd (whB (callK tab (j + 2)) w72 (e72 (.do_ s :: T) (.tup r.its) ps x3 x4 x5 x6)) (nextW fun ρ' => whlLoop (whC (callK tab (j + 2)) c72) (whB (callK tab (j + 2)) w72) n ρ') = whlLoop (whC (callK tab (j + 2)) c72) (whB (callK tab (j + 2)) w72) n (e72 T (oD (done s r)) ps (some (Pt.do_ s).enc) (some (.str .do_)) x5 x6) := by
          simp [whB, e72, w72, wparts, b_72, encs, Pt.enc, setAll, asgTg, place, e1] at hc ⊢
          simp [hc]
        simp only [List.isEmpty_cons, Bool.not_false, r_bnd, cond_true]
        rw [go]
        cases hd : done s r with
        | none =>
          have e : treeL c (.do_ s :: T) r = none := by cases c <;> simp [treeL, goL, hd, treeO]
          rw [e]
          obtain ⟨m, rfl⟩ : ∃ m, n = m + 1 := ⟨n - 1, by omega⟩
          exact none72 (j + 2) m T ps _ _ _ _
        | some r' =>
          rw [treeL_go c (show goL (.do_ s :: T) r = goL T r' by rw [goL, hd])]
          exact ends_loop (j + 2) c ps hps hk ih n T r' _ _ _ _ (by omega) hT.tail (by omega) (done_rs hd)
      | row l =>
        simp only [wts, Pt.wt] at hn hw
        have hll := len_wts l
        have go : bnd (whB (callK tab (j + 2)) w72 (e72 (.row l :: T) (.tup r.its) ps x3 x4 x5 x6)) (nextW fun ρ' => whlLoop (whC (callK tab (j + 2)) c72) (whB (callK tab (j + 2)) w72) n ρ') = whlLoop (whC (callK tab (j + 2)) c72) (whB (callK tab (j + 2)) w72) n (e72 (l ++ T) (.tup r.its) ps (some (Pt.row l).enc) (some (.str .row)) x5 x6) := by
          simp [whB, e72, w72, wparts, b_72, encs, Pt.enc, setAll, asgTg, place] at hc ⊢
          simp [hc]
          rw [p_add_t (by simp [line]; omega)]
          simp
        simp only [List.isEmpty_cons, Bool.not_false, r_bnd, cond_true]
        rw [go, treeL_go c (show goL (.row l :: T) r = goL (l ++ T) r by rw [goL])]
        exact ends_loop (j + 2) c ps hps hk ih n (l ++ T) r _ _ _ _ (by rw [wts_append]; omega) (hT.tail.app hp.2) (by rw [wts_append]; omega) hr
      | times m p =>
        simp only [wts, Pt.wt, Nat.mul_add] at hn hw
        have hm := hp.1
        have hll := len_wts (List.replicate m p)
        rw [wts_replicate] at hll
        have go : bnd (whB (callK tab (j + 2)) w72 (e72 (.times m p :: T) (.tup r.its) ps x3 x4 x5 x6)) (nextW fun ρ' => whlLoop (whC (callK tab (j + 2)) c72) (whB (callK tab (j + 2)) w72) n ρ') = whlLoop (whC (callK tab (j + 2)) c72) (whB (callK tab (j + 2)) w72) n (e72 (List.replicate m p ++ T) (.tup r.its) ps (some (Pt.times m p).enc) (some (.str .times)) x5 x6) := by
          simp [whB, e72, w72, wparts, b_72, encs, Pt.enc, setAll, asgTg, place] at hc ⊢
          simp [hc]
          rw [p_mul_t ⟨by simp, by omega, by omega, by simp⟩]
          simp [rep_one]
          rw [p_add_t (by simp [line]; omega)]
          simp
        simp only [List.isEmpty_cons, Bool.not_false, r_bnd, cond_true]
        rw [go, treeL_go c (show goL (.times m p :: T) r = goL (List.replicate m p ++ T) r by rw [goL])]
        exact ends_loop (j + 2) c ps hps hk ih n (List.replicate m p ++ T) r _ _ _ _ (by rw [wts_append, wts_replicate]; omega) (hT.tail.app fun q hq => by rw [List.eq_of_mem_replicate hq]; exact hp.2) (by rw [wts_append, wts_replicate]; omega) hr
      | if_ K a b =>
        simp only [wts, Pt.wt] at hn hw
        have e1 := lisof_ev hp.1.tv (j + 1) r (by have := hr.2; omega)
        have go : bnd (whB (callK tab (j + 2)) w72 (e72 (.if_ K a b :: T) (.tup r.its) ps x3 x4 x5 x6)) (nextW fun ρ' => whlLoop (whC (callK tab (j + 2)) c72) (whB (callK tab (j + 2)) w72) n ρ') = whlLoop (whC (callK tab (j + 2)) c72) (whB (callK tab (j + 2)) w72) n (e72 ((if K.has r then a else b) :: T) (.tup r.its) ps (some (Pt.if_ K a b).enc) (some (.str .if_)) x5 x6) := by
          simp [whB, e72, w72, wparts, b_72, encs, Pt.enc, setAll, asgTg, place] at hc ⊢
          simp [hc, e1]
          cases K.has r <;> simp <;> rw [p_add_t (by simp [line]; omega)] <;> simp
        simp only [List.isEmpty_cons, Bool.not_false, r_bnd, cond_true]
        rw [go, treeL_go c (show goL (.if_ K a b :: T) r = goL ((if K.has r then a else b) :: T) r by rw [goL]; split <;> rfl)]
        have hx : (if K.has r = true then a else b).wt ≤ max a.wt b.wt := by split <;> omega
        exact ends_loop (j + 2) c ps hps hk ih n ((if K.has r then a else b) :: T) r _ _ _ _ (by simp only [wts]; omega) (hT.tail.cons (by split; exact hp.2.1; exact hp.2.2)) (by simp only [wts]; omega) hr
      | ch o a b =>
        simp only [wts, Pt.wt] at hn hw
        have hg : goL (.ch o a b :: T) r = .ch o a b T r := by rw [goL]
        cases c with
        | zero =>
          have e : treeL 0 (.ch o a b :: T) r = none := by simp [treeL, hg, treeO, joinT]
          have h6 : (6 : Int) < (ps.length : Int) := by omega
          cases o <;> (simp [whB, e72, w72, wparts, b_72, encs, Pt.enc, who, setAll, asgTg, place] at hc ⊢; simp [hc, h6, e, endsD])
        | succ c =>
          have e : treeL (c + 1) (.ch o a b :: T) r = joinT o (treeL c (a :: T) r) (treeL c (b :: T) r) := by simp only [treeL, hg, treeO]
          have h6 : ¬ (6 : Int) < (ps.length : Int) := by omega
          have i1 := ih c rfl (a :: T) r (ps ++ [false]) (by simp; omega) (hT.tail.cons hp.1) (by simp only [wts]; omega) hr
          have i2 := ih c rfl (b :: T) r (ps ++ [true]) (by simp; omega) (hT.tail.cons hp.2) (by simp only [wts]; omega) hr
          simp [encs, bI] at i1 i2
          have a1 : op2 .add (.tup [a.enc]) (.tup (encs T)) = some (.tup (a.enc :: encs T)) := p_add_t (by simp [line]; omega)
          have a2 : op2 .add (.tup [b.enc]) (.tup (encs T)) = some (.tup (b.enc :: encs T)) := p_add_t (by simp [line]; omega)
          have a3 : ∀ d : D, op2 .add (.tup (ps.map bI)) (.tup [d]) = some (.tup (ps.map bI ++ [d])) := fun d => p_add_t (by simp [line]; omega)
          have fin : (bnd (ret (endsD (treeL c (a :: T) r) (ps ++ [false]))) fun x => bnd (ret (endsD (treeL c (b :: T) r) (ps ++ [true]))) fun y => cond (isN x || isN y) (ret .non) (ofO (op2 .add x y))) = (ret (endsD (treeL (c + 1) (.ch o a b :: T) r) ps) : M D) := by
            rw [e]
            cases h1 : treeL c (a :: T) r with
            | none => simp [endsD, joinT]
            | some x =>
              cases h2 : treeL c (b :: T) r with
              | none => simp [endsD, joinT]
              | some y =>
                have l1 := leaves_len c _ _ x (ps ++ [false]) h1
                have l2 := leaves_len c _ _ y (ps ++ [true]) h2
                have hc6 : 2 ^ c ≤ 2 ^ 6 := Nat.pow_le_pow_right (by decide) (by omega)
                simp [endsD, joinT, leaves]
                rw [p_add_l (by simp [line]; omega)]
                simp
          cases o <;> (
            simp [whB, e72, w72, wparts, b_72, encs, Pt.enc, who, setAll, asgTg, place] at hc ⊢
            simp [hc, h6, a1, a2, a3, i1, i2]
            rw [← fin]
            simp
            cases isN (endsD (treeL c (a :: T) r) (ps ++ [false])) <;> simp)
      | again => exact hp.elim
theorem ends_ev : ∀ (c k : Nat) (T : List Pt) (r : Rw) (ps : List Bool), ps.length + c = 7 → 125 + c ≤ k → Pl T → wts T ≤ 900 → Rs r → callK tab k 72 [.tup (encs T), .tup r.its, .tup (ps.map bI)] = ret (endsD (treeL c T r) ps) := by
  intro c
  induction c with
  | zero =>
    intro k T r ps h1 h2 h3 h4 h5
    obtain ⟨j, rfl⟩ : ∃ j, k = j + 1 := ⟨k - 1, by omega⟩
    rw [show callK tab (j + 1) 72 [.tup (encs T), .tup r.its, .tup (ps.map bI)] = runB (callK tab j) 7 b_72 [.tup (encs T), .tup r.its, .tup (ps.map bI)] from rfl, run_at, b72, ss_cons, s_whl, b_assoc]
    exact ends_loop j 0 ps h1 (by omega) (fun c' e => by cases e) WN T r none none none none (by unfold WN; omega) h3 h4 h5
  | succ c ih =>
    intro k T r ps h1 h2 h3 h4 h5
    obtain ⟨j, rfl⟩ : ∃ j, k = j + 1 := ⟨k - 1, by omega⟩
    rw [show callK tab (j + 1) 72 [.tup (encs T), .tup r.its, .tup (ps.map bI)] = runB (callK tab j) 7 b_72 [.tup (encs T), .tup r.its, .tup (ps.map bI)] from rfl, run_at, b72, ss_cons, s_whl, b_assoc]
    exact ends_loop j (c + 1) ps h1 (by omega) (fun c' e T r ps' q1 q2 q3 q4 => by cases e; exact ih j T r ps' q1 (by omega) q2 q3 q4) WN T r none none none none (by unfold WN; omega) h3 h4 h5
end Nm
end
section
set_option Elab.async false
set_option linter.all false
set_option maxRecDepth 100000
set_option maxHeartbeats 1000000
namespace Nm
open Nk
def winsT (K : Kd) : Tr → Bool
  | .fin r => K.has r
  | .nod o a b => cond o (winsT K a || winsT K b) (winsT K a && winsT K b)
def isEnd (v : D) : Bool := eqv v (.tup [.str .end_])
def isW (t : Tag) : D → Bool
  | .str u => decide (u = t)
  | _ => false
def pick : D → Option Bool
  | .int i => if i = 0 then some false else if i = 1 then some true else none
  | _ => none
def planT (K : Kd) : Tr → D → Bool
  | .fin r, v => isEnd v && K.has r
  | .nod o a b, .tup [w, x, y] => isW (cond o .ours .theirs) w && cond o (match pick x with | some p => cond p (planT K b y) (planT K a y) | none => false) (planT K a x && planT K b y)
  | .nod .., _ => false
theorem eqO_W (w : D) (t : Tag) (h : nosrc w = true) : eqO w (.str t) = some (isW t w) := by
  unfold eqO
  rw [if_pos (by simp [h, nosrc, dep])]
  cases w <;> rfl
theorem eqO_End (w : D) (h : nosrc w = true) : eqO w (.tup [.str .end_]) = some (isEnd w) := by
  unfold eqO
  rw [if_pos (by simp [h, nosrc, nosrcs, dep, deps]; omega)]
  rfl
theorem from_any (k : Nat) (x : D) (h : nosrc x = true) : callK tab (k + 1) 51 [x, .int 0, .int 1] = ret (.bl (pick x).isSome) := by
  rw [show callK tab (k + 1) 51 [x, .int 0, .int 1] = runB (callK tab k) 3 b_51 [x, .int 0, .int 1] from rfl]
  cases x with
  | int i =>
    simp [run_at, b_51]
    by_cases h0 : i = 0
    · subst h0; simp [pick]
    · by_cases h1 : i = 1
      · subst h1; simp [pick]
      · simp only [pick, if_neg h0, if_neg h1]
        by_cases h2 : 0 ≤ i
        · have h3 : ¬ i ≤ 1 := by omega
          simp [h2, h3]
        · simp [h2]
  | src => cases h
  | bl b => simp [run_at, b_51, show op1 .isint (.bl b) = some (.bl true) from rfl, pick]
  | non => simp [run_at, b_51, show op1 .isint .non = some (.bl false) from rfl, pick]
  | str t => simp [run_at, b_51, show op1 .isint (.str t) = some (.bl false) from rfl, pick]
  | tup l => simp [run_at, b_51, show op1 .isint (.tup l) = some (.bl false) from rfl, pick]
  | lst l => simp [run_at, b_51, show op1 .isint (.lst l) = some (.bl false) from rfl, pick]
theorem whole_any (k : Nat) (x : D) (h : nosrc x = true) : callK tab (k + 1) 0 [x, .int 0, .int 1] = ret (.bl (pick x).isSome) := by
  rw [show callK tab (k + 1) 0 [x, .int 0, .int 1] = runB (callK tab k) 3 b_0 [x, .int 0, .int 1] from rfl, show b_0 = b_51 from rfl]
  exact from_any k x h
abbrev c73 : E := (wparts b_73).1
abbrev w73 : Ss := (wparts b_73).2
abbrev t73 : Ss := tl1 b_73
theorem b73 : b_73 = .cons (.whl c73 w73) t73 := rfl
def e73 (K : Kd) (v : D) (T : List Pt) (r : Rw) (x4 x5 x6 x7 x8 : Option D) : Env := [some (.tup (encs T)), some (.tup r.its), some K.enc, some v, x4, x5, x6, x7, x8]
theorem cond73 (K : Kd) (v : D) (k : Nat) (T : List Pt) (r : Rw) (x4 x5 x6 x7 x8 : Option D) : whC (callK tab k) c73 (e73 K v T r x4 x5 x6 x7 x8) = ret (!T.isEmpty) := by
  cases T <;> simp [whC, c73, wparts, b_73, e73, eqO_tup_nil (nosrcs_P _), encs_nil]
theorem loop73 (K : Kd) (hK : K.ok) (v : D) (hv : v = .str .game) (k c : Nat) (hk : 124 ≤ k) (ih : ∀ c', c = c' + 1 → ∀ (T : List Pt) (r : Rw) (t : Tr), treeL c' T r = some t → Pl T → wts T ≤ 900 → Rs r → callK tab k 73 [.tup (encs T), .tup r.its, K.enc, v] = ret (.bl (winsT K t))) : ∀ (n : Nat) (T : List Pt) (r : Rw) (t : Tr) (x4 x5 x6 x7 x8 : Option D), treeL c T r = some t → wts T + 1 ≤ n → Pl T → wts T ≤ 900 → Rs r → (bnd (whlLoop (whC (callK tab k) c73) (whB (callK tab k) w73) n (e73 K v T r x4 x5 x6 x7 x8)) fun a => bnd (thenS (fun ρ => evSs (callK tab k) t73 ρ) a) endD) = ret (.bl (winsT K t))
  | 0, T, r, t, _, _, _, _, _, ht, hn, _, _, _ => by omega
  | n + 1, T, r, t, x4, x5, x6, x7, x8, ht, hn, hT, hw, hr => by
    obtain ⟨j, rfl⟩ : ∃ j, k = j + 2 := ⟨k - 2, by omega⟩
    rw [wl_step, cond73]
    cases T with
    | nil =>
      have e : treeL c [] r = some (.fin r) := by cases c <;> simp [treeL, goL, treeO]
      rw [e] at ht
      cases ht
      have e1 := lisof_ev hK.tv (j + 1) r (by have := hr.2; omega)
      subst hv
      simp [e73, t73, tl1, b_73, winsT, e1, encs]
    | cons p T =>
      have hc := cutT p T
      have hp := hT p List.mem_cons_self
      have hl := len_wts T
      simp only [List.isEmpty_cons, Bool.not_false, r_bnd, cond_true]
      cases p with
      | do_ s =>
        simp only [wts, Pt.wt] at hn hw
        have e1 := done_ev (show s.ok from hp) (j + 1) r (by have := hr.2; omega) hr.1
        cases hd : done s r with
        | none =>
          have e : treeL c (.do_ s :: T) r = none := by cases c <;> simp [treeL, goL, hd, treeO]
          rw [e] at ht
          cases ht
        | some r' =>
          rw [hd] at e1
          have go : bnd (whB (callK tab (j + 2)) w73 (e73 K v (.do_ s :: T) r x4 x5 x6 x7 x8)) (nextW fun ρ' => whlLoop (whC (callK tab (j + 2)) c73) (whB (callK tab (j + 2)) w73) n ρ') = whlLoop (whC (callK tab (j + 2)) c73) (whB (callK tab (j + 2)) w73) n (e73 K v T r' (some (Pt.do_ s).enc) (some (.str .do_)) x6 x7 x8) := by
            simp [whB, e73, w73, wparts, b_73, encs, Pt.enc, setAll, asgTg, place, e1, oD] at hc ⊢
            simp [hc]
          rw [go]
          rw [treeL_go c (show goL (.do_ s :: T) r = goL T r' by rw [goL, hd])] at ht
          exact loop73 K hK v hv (j + 2) c hk ih n T r' t _ _ _ _ _ ht (by omega) hT.tail (by omega) (done_rs hd)
      | row l =>
        simp only [wts, Pt.wt] at hn hw
        have hll := len_wts l
        have go : bnd (whB (callK tab (j + 2)) w73 (e73 K v (.row l :: T) r x4 x5 x6 x7 x8)) (nextW fun ρ' => whlLoop (whC (callK tab (j + 2)) c73) (whB (callK tab (j + 2)) w73) n ρ') = whlLoop (whC (callK tab (j + 2)) c73) (whB (callK tab (j + 2)) w73) n (e73 K v (l ++ T) r (some (Pt.row l).enc) (some (.str .row)) x6 x7 x8) := by
          simp [whB, e73, w73, wparts, b_73, encs, Pt.enc, setAll, asgTg, place] at hc ⊢
          simp [hc]
          rw [p_add_t (by simp [line]; omega)]
          simp
        rw [go]
        rw [treeL_go c (show goL (.row l :: T) r = goL (l ++ T) r by rw [goL])] at ht
        exact loop73 K hK v hv (j + 2) c hk ih n (l ++ T) r t _ _ _ _ _ ht (by rw [wts_append]; omega) (hT.tail.app hp.2) (by rw [wts_append]; omega) hr
      | times m p =>
        simp only [wts, Pt.wt, Nat.mul_add] at hn hw
        have hm := hp.1
        have hll := len_wts (List.replicate m p)
        rw [wts_replicate] at hll
        have go : bnd (whB (callK tab (j + 2)) w73 (e73 K v (.times m p :: T) r x4 x5 x6 x7 x8)) (nextW fun ρ' => whlLoop (whC (callK tab (j + 2)) c73) (whB (callK tab (j + 2)) w73) n ρ') = whlLoop (whC (callK tab (j + 2)) c73) (whB (callK tab (j + 2)) w73) n (e73 K v (List.replicate m p ++ T) r (some (Pt.times m p).enc) (some (.str .times)) x6 x7 x8) := by
          simp [whB, e73, w73, wparts, b_73, encs, Pt.enc, setAll, asgTg, place] at hc ⊢
          simp [hc]
          rw [p_mul_t ⟨by simp, by omega, by omega, by simp⟩]
          simp [rep_one]
          rw [p_add_t (by simp [line]; omega)]
          simp
        rw [go]
        rw [treeL_go c (show goL (.times m p :: T) r = goL (List.replicate m p ++ T) r by rw [goL])] at ht
        exact loop73 K hK v hv (j + 2) c hk ih n (List.replicate m p ++ T) r t _ _ _ _ _ ht (by rw [wts_append, wts_replicate]; omega) (hT.tail.app fun q hq => by rw [List.eq_of_mem_replicate hq]; exact hp.2) (by rw [wts_append, wts_replicate]; omega) hr
      | if_ Q a b =>
        simp only [wts, Pt.wt] at hn hw
        have e1 := lisof_ev hp.1.tv (j + 1) r (by have := hr.2; omega)
        have go : bnd (whB (callK tab (j + 2)) w73 (e73 K v (.if_ Q a b :: T) r x4 x5 x6 x7 x8)) (nextW fun ρ' => whlLoop (whC (callK tab (j + 2)) c73) (whB (callK tab (j + 2)) w73) n ρ') = whlLoop (whC (callK tab (j + 2)) c73) (whB (callK tab (j + 2)) w73) n (e73 K v ((if Q.has r then a else b) :: T) r (some (Pt.if_ Q a b).enc) (some (.str .if_)) x6 x7 x8) := by
          simp [whB, e73, w73, wparts, b_73, encs, Pt.enc, setAll, asgTg, place] at hc ⊢
          simp [hc, e1]
          cases Q.has r <;> simp <;> rw [p_add_t (by simp [line]; omega)] <;> simp
        rw [go]
        rw [treeL_go c (show goL (.if_ Q a b :: T) r = goL ((if Q.has r then a else b) :: T) r by rw [goL]; split <;> rfl)] at ht
        have hx : (if Q.has r = true then a else b).wt ≤ max a.wt b.wt := by split <;> omega
        exact loop73 K hK v hv (j + 2) c hk ih n ((if Q.has r then a else b) :: T) r t _ _ _ _ _ ht (by simp only [wts]; omega) (hT.tail.cons (by split; exact hp.2.1; exact hp.2.2)) (by simp only [wts]; omega) hr
      | ch o a b =>
        simp only [wts, Pt.wt] at hn hw
        have hg : goL (.ch o a b :: T) r = .ch o a b T r := by rw [goL]
        cases c with
        | zero => simp [treeL, hg, treeO, joinT] at ht
        | succ c =>
          have e : treeL (c + 1) (.ch o a b :: T) r = joinT o (treeL c (a :: T) r) (treeL c (b :: T) r) := by simp only [treeL, hg, treeO]
          rw [e] at ht
          cases h1 : treeL c (a :: T) r with
          | none => rw [h1] at ht; cases ht
          | some x =>
            cases h2 : treeL c (b :: T) r with
            | none => rw [h1, h2] at ht; cases ht
            | some y =>
              rw [h1, h2] at ht
              cases ht
              have a1 : op2 .add (.tup [a.enc]) (.tup (encs T)) = some (.tup (a.enc :: encs T)) := p_add_t (by simp [line]; omega)
              have a2 : op2 .add (.tup [b.enc]) (.tup (encs T)) = some (.tup (b.enc :: encs T)) := p_add_t (by simp [line]; omega)
              have i1 := ih c rfl (a :: T) r x h1 (hT.tail.cons hp.1) (by simp only [wts]; omega) hr
              have i2 := ih c rfl (b :: T) r y h2 (hT.tail.cons hp.2) (by simp only [wts]; omega) hr
              subst hv
              simp [encs] at i1 i2
              cases o
              · simp [whB, e73, w73, wparts, b_73, encs, Pt.enc, who, setAll, asgTg, place, inO, strsD, winsT] at hc ⊢
                simp [hc, a1, a2, i1, i2]
                cases winsT K x <;> simp
              · simp [whB, e73, w73, wparts, b_73, encs, Pt.enc, who, setAll, asgTg, place, inO, strsD, winsT] at hc ⊢
                simp [hc, a1, a2, i1, i2]
                cases winsT K x <;> simp
      | again => exact hp.elim
theorem wins_ev (K : Kd) (hK : K.ok) : ∀ (c k : Nat) (T : List Pt) (r : Rw) (t : Tr), treeL c T r = some t → 125 + c ≤ k → Pl T → wts T ≤ 900 → Rs r → callK tab k 73 [.tup (encs T), .tup r.its, K.enc, .str .game] = ret (.bl (winsT K t)) := by
  intro c
  induction c with
  | zero =>
    intro k T r t ht h2 h3 h4 h5
    obtain ⟨j, rfl⟩ : ∃ j, k = j + 1 := ⟨k - 1, by omega⟩
    rw [show callK tab (j + 1) 73 [.tup (encs T), .tup r.its, K.enc, .str .game] = runB (callK tab j) 9 b_73 [.tup (encs T), .tup r.its, K.enc, .str .game] from rfl, run_at, b73, ss_cons, s_whl, b_assoc]
    exact loop73 K hK (.str .game) rfl j 0 (by omega) (fun c' e => by cases e) WN T r t none none none none none ht (by unfold WN; omega) h3 h4 h5
  | succ c ih =>
    intro k T r t ht h2 h3 h4 h5
    obtain ⟨j, rfl⟩ : ∃ j, k = j + 1 := ⟨k - 1, by omega⟩
    rw [show callK tab (j + 1) 73 [.tup (encs T), .tup r.its, K.enc, .str .game] = runB (callK tab j) 9 b_73 [.tup (encs T), .tup r.its, K.enc, .str .game] from rfl, run_at, b73, ss_cons, s_whl, b_assoc]
    exact loop73 K hK (.str .game) rfl j (c + 1) (by omega) (fun c' e T r t q1 q2 q3 q4 => by cases e; exact ih j T r t q1 (by omega) q2 q3 q4) WN T r t none none none none none ht (by unfold WN; omega) h3 h4 h5
abbrev c77 : E := (wparts b_77).1
abbrev w77 : Ss := (wparts b_77).2
abbrev t77 : Ss := tl1 b_77
theorem b77 : b_77 = .cons (.whl c77 w77) t77 := rfl
def e77 (K : Kd) (v : D) (T : List Pt) (r : Rw) (x4 x5 x6 : Option D) : Env := [some (.tup (encs T)), some (.tup r.its), some K.enc, some v, x4, x5, x6]
theorem cond77 (K : Kd) (v : D) (k : Nat) (T : List Pt) (r : Rw) (x4 x5 x6 : Option D) : whC (callK tab k) c77 (e77 K v T r x4 x5 x6) = ret (!T.isEmpty) := by
  cases T <;> simp [whC, c77, wparts, b_77, e77, eqO_tup_nil (nosrcs_P _), encs_nil]
theorem loop77 (K : Kd) (hK : K.ok) (v : D) (hv : nosrc v = true) (k c : Nat) (hk : 124 ≤ k) (ih : ∀ c', c = c' + 1 → ∀ (v0 : D), nosrc v0 = true → ∀ (T : List Pt) (r : Rw) (t : Tr), treeL c' T r = some t → Pl T → wts T ≤ 900 → Rs r → callK tab k 77 [.tup (encs T), .tup r.its, K.enc, v0] = ret (.bl (planT K t v0))) : ∀ (n : Nat) (T : List Pt) (r : Rw) (t : Tr) (x4 x5 x6 : Option D), treeL c T r = some t → wts T + 1 ≤ n → Pl T → wts T ≤ 900 → Rs r → (bnd (whlLoop (whC (callK tab k) c77) (whB (callK tab k) w77) n (e77 K v T r x4 x5 x6)) fun a => bnd (thenS (fun ρ => evSs (callK tab k) t77 ρ) a) endD) = ret (.bl (planT K t v))
  | 0, T, r, t, _, _, _, ht, hn, _, _, _ => by omega
  | n + 1, T, r, t, x4, x5, x6, ht, hn, hT, hw, hr => by
    obtain ⟨j, rfl⟩ : ∃ j, k = j + 2 := ⟨k - 2, by omega⟩
    rw [wl_step, cond77]
    cases T with
    | nil =>
      have e : treeL c [] r = some (.fin r) := by cases c <;> simp [treeL, goL, treeO]
      rw [e] at ht
      cases ht
      have e1 := lisof_ev hK.tv (j + 1) r (by have := hr.2; omega)
      simp [e77, t77, tl1, b_77, planT, e1, encs, eqO_End v hv]
      cases isEnd v <;> simp
    | cons p T =>
      have hc := cutT p T
      have hp := hT p List.mem_cons_self
      have hl := len_wts T
      simp only [List.isEmpty_cons, Bool.not_false, r_bnd, cond_true]
      cases p with
      | do_ s =>
        simp only [wts, Pt.wt] at hn hw
        have e1 := done_ev (show s.ok from hp) (j + 1) r (by have := hr.2; omega) hr.1
        cases hd : done s r with
        | none =>
          have e : treeL c (.do_ s :: T) r = none := by cases c <;> simp [treeL, goL, hd, treeO]
          rw [e] at ht
          cases ht
        | some r' =>
          rw [hd] at e1
          have go : bnd (whB (callK tab (j + 2)) w77 (e77 K v (.do_ s :: T) r x4 x5 x6)) (nextW fun ρ' => whlLoop (whC (callK tab (j + 2)) c77) (whB (callK tab (j + 2)) w77) n ρ') = whlLoop (whC (callK tab (j + 2)) c77) (whB (callK tab (j + 2)) w77) n (e77 K v T r' (some (Pt.do_ s).enc) (some (.str .do_)) x6) := by
            simp [whB, e77, w77, wparts, b_77, encs, Pt.enc, setAll, asgTg, place, e1, oD] at hc ⊢
            simp [hc]
          rw [go]
          rw [treeL_go c (show goL (.do_ s :: T) r = goL T r' by rw [goL, hd])] at ht
          exact loop77 K hK v hv (j + 2) c hk ih n T r' t _ _ _ ht (by omega) hT.tail (by omega) (done_rs hd)
      | row l =>
        simp only [wts, Pt.wt] at hn hw
        have hll := len_wts l
        have go : bnd (whB (callK tab (j + 2)) w77 (e77 K v (.row l :: T) r x4 x5 x6)) (nextW fun ρ' => whlLoop (whC (callK tab (j + 2)) c77) (whB (callK tab (j + 2)) w77) n ρ') = whlLoop (whC (callK tab (j + 2)) c77) (whB (callK tab (j + 2)) w77) n (e77 K v (l ++ T) r (some (Pt.row l).enc) (some (.str .row)) x6) := by
          simp [whB, e77, w77, wparts, b_77, encs, Pt.enc, setAll, asgTg, place] at hc ⊢
          simp [hc]
          rw [p_add_t (by simp [line]; omega)]
          simp
        rw [go]
        rw [treeL_go c (show goL (.row l :: T) r = goL (l ++ T) r by rw [goL])] at ht
        exact loop77 K hK v hv (j + 2) c hk ih n (l ++ T) r t _ _ _ ht (by rw [wts_append]; omega) (hT.tail.app hp.2) (by rw [wts_append]; omega) hr
      | times m p =>
        simp only [wts, Pt.wt, Nat.mul_add] at hn hw
        have hm := hp.1
        have hll := len_wts (List.replicate m p)
        rw [wts_replicate] at hll
        have go : bnd (whB (callK tab (j + 2)) w77 (e77 K v (.times m p :: T) r x4 x5 x6)) (nextW fun ρ' => whlLoop (whC (callK tab (j + 2)) c77) (whB (callK tab (j + 2)) w77) n ρ') = whlLoop (whC (callK tab (j + 2)) c77) (whB (callK tab (j + 2)) w77) n (e77 K v (List.replicate m p ++ T) r (some (Pt.times m p).enc) (some (.str .times)) x6) := by
          simp [whB, e77, w77, wparts, b_77, encs, Pt.enc, setAll, asgTg, place] at hc ⊢
          simp [hc]
          rw [p_mul_t ⟨by simp, by omega, by omega, by simp⟩]
          simp [rep_one]
          rw [p_add_t (by simp [line]; omega)]
          simp
        rw [go]
        rw [treeL_go c (show goL (.times m p :: T) r = goL (List.replicate m p ++ T) r by rw [goL])] at ht
        exact loop77 K hK v hv (j + 2) c hk ih n (List.replicate m p ++ T) r t _ _ _ ht (by rw [wts_append, wts_replicate]; omega) (hT.tail.app fun q hq => by rw [List.eq_of_mem_replicate hq]; exact hp.2) (by rw [wts_append, wts_replicate]; omega) hr
      | if_ Q a b =>
        simp only [wts, Pt.wt] at hn hw
        have e1 := lisof_ev hp.1.tv (j + 1) r (by have := hr.2; omega)
        have go : bnd (whB (callK tab (j + 2)) w77 (e77 K v (.if_ Q a b :: T) r x4 x5 x6)) (nextW fun ρ' => whlLoop (whC (callK tab (j + 2)) c77) (whB (callK tab (j + 2)) w77) n ρ') = whlLoop (whC (callK tab (j + 2)) c77) (whB (callK tab (j + 2)) w77) n (e77 K v ((if Q.has r then a else b) :: T) r (some (Pt.if_ Q a b).enc) (some (.str .if_)) x6) := by
          simp [whB, e77, w77, wparts, b_77, encs, Pt.enc, setAll, asgTg, place] at hc ⊢
          simp [hc, e1]
          cases Q.has r <;> simp <;> rw [p_add_t (by simp [line]; omega)] <;> simp
        rw [go]
        rw [treeL_go c (show goL (.if_ Q a b :: T) r = goL ((if Q.has r then a else b) :: T) r by rw [goL]; split <;> rfl)] at ht
        have hx : (if Q.has r = true then a else b).wt ≤ max a.wt b.wt := by split <;> omega
        exact loop77 K hK v hv (j + 2) c hk ih n ((if Q.has r then a else b) :: T) r t _ _ _ ht (by simp only [wts]; omega) (hT.tail.cons (by split; exact hp.2.1; exact hp.2.2)) (by simp only [wts]; omega) hr
      | ch o a b =>
        simp only [wts, Pt.wt] at hn hw
        have hg : goL (.ch o a b :: T) r = .ch o a b T r := by rw [goL]
        cases c with
        | zero => simp [treeL, hg, treeO, joinT] at ht
        | succ c =>
          have e : treeL (c + 1) (.ch o a b :: T) r = joinT o (treeL c (a :: T) r) (treeL c (b :: T) r) := by simp only [treeL, hg, treeO]
          rw [e] at ht
          cases h1 : treeL c (a :: T) r with
          | none => rw [h1] at ht; cases ht
          | some x =>
            cases h2 : treeL c (b :: T) r with
            | none => rw [h1, h2] at ht; cases ht
            | some y =>
              rw [h1, h2] at ht
              cases ht
              have a1 : op2 .add (.tup [a.enc]) (.tup (encs T)) = some (.tup (a.enc :: encs T)) := p_add_t (by simp [line]; omega)
              have a2 : op2 .add (.tup [b.enc]) (.tup (encs T)) = some (.tup (b.enc :: encs T)) := p_add_t (by simp [line]; omega)
              have i1 := fun (u : D) (hu : nosrc u = true) => ih c rfl u hu (a :: T) r x h1 (hT.tail.cons hp.1) (by simp only [wts]; omega) hr
              have i2 := fun (u : D) (hu : nosrc u = true) => ih c rfl u hu (b :: T) r y h2 (hT.tail.cons hp.2) (by simp only [wts]; omega) hr
              simp [encs] at i1 i2
              have other : (∀ l, v ≠ .tup l) → planT K (.nod o x y) v = false := fun h => by
                cases v with
                | tup l => exact (h l rfl).elim
                | _ => rfl
              have small : ∀ l : List D, v = .tup l → l.length ≠ 3 → planT K (.nod o x y) v = false := fun l e hl => by
                subst e
                match l, hl with
                | [], _ => rfl
                | [_], _ => rfl
                | [_, _], _ => rfl
                | [_, _, _], hl => exact (hl rfl).elim
                | _ :: _ :: _ :: _ :: _, _ => rfl
              by_cases ht : ∃ l, v = .tup l
              case neg =>
                have hi : op1 .istup v = some (.bl false) := by
                  cases v with
                  | tup l => exact (ht ⟨l, rfl⟩).elim
                  | src => cases hv
                  | _ => rfl
                rw [other fun l e => ht ⟨l, e⟩]
                cases o <;> (simp [whB, e77, w77, wparts, b_77, encs, Pt.enc, who, setAll, asgTg, place] at hc ⊢; simp [hc, hi])
              case pos =>
                obtain ⟨l, rfl⟩ := ht
                by_cases h3 : l.length = 3
                case neg =>
                  rw [small l rfl h3]
                  have h3' : ((l.length : Int) == 3) = false := by rw [beq_eq_false_iff_ne]; omega
                  cases o <;> (simp [whB, e77, w77, wparts, b_77, encs, Pt.enc, who, setAll, asgTg, place] at hc ⊢; simp [hc, h3'])
                case pos =>
                  match l, h3, hv with
                  | [w, u, z], _, hv =>
                    simp [nosrc, nosrcs] at hv
                    have i3 := i1 u hv.2.1
                    have i4 := i1 z hv.2.2
                    have i5 := i2 z hv.2.2
                    cases o with
                    | false =>
                      have ew := eqO_W w .theirs hv.1
                      simp [whB, e77, w77, wparts, b_77, encs, Pt.enc, who, setAll, asgTg, place, planT] at hc ⊢
                      simp [hc, ew]
                      cases isW .theirs w with
                      | false => simp
                      | true =>
                        simp [place, a1, i3]
                        cases planT K x u <;> simp [place, a2, i5]
                    | true =>
                      have ew := eqO_W w .ours hv.1
                      have ef := from_any (j + 1) u hv.2.1
                      simp [whB, e77, w77, wparts, b_77, encs, Pt.enc, who, setAll, asgTg, place, planT] at hc ⊢
                      simp [hc, ew]
                      cases isW .ours w with
                      | false => simp
                      | true =>
                        simp [place, ef]
                        cases hpk : pick u with
                        | none => simp
                        | some p =>
                          have hu : u = .int (cond p 1 0) := by
                            cases u with
                            | int i =>
                              simp only [pick] at hpk
                              split at hpk
                              · cases hpk; subst_vars; rfl
                              · split at hpk
                                · cases hpk; subst_vars; rfl
                                · cases hpk
                            | _ => cases hpk
                          subst hu
                          cases p
                          · simp [place, a1, i4]
                          · simp [place, a2, i5]
      | again => exact hp.elim
theorem isplan_ev (K : Kd) (hK : K.ok) : ∀ (c k : Nat) (v : D) (hv : nosrc v = true) (T : List Pt) (r : Rw) (t : Tr), treeL c T r = some t → 125 + c ≤ k → Pl T → wts T ≤ 900 → Rs r → callK tab k 77 [.tup (encs T), .tup r.its, K.enc, v] = ret (.bl (planT K t v)) := by
  intro c
  induction c with
  | zero =>
    intro k v hv T r t ht h2 h3 h4 h5
    obtain ⟨j, rfl⟩ : ∃ j, k = j + 1 := ⟨k - 1, by omega⟩
    rw [show callK tab (j + 1) 77 [.tup (encs T), .tup r.its, K.enc, v] = runB (callK tab j) 7 b_77 [.tup (encs T), .tup r.its, K.enc, v] from rfl, run_at, b77, ss_cons, s_whl, b_assoc]
    exact loop77 K hK v hv j 0 (by omega) (fun c' e => by cases e) WN T r t none none none ht (by unfold WN; omega) h3 h4 h5
  | succ c ih =>
    intro k v hv T r t ht h2 h3 h4 h5
    obtain ⟨j, rfl⟩ : ∃ j, k = j + 1 := ⟨k - 1, by omega⟩
    rw [show callK tab (j + 1) 77 [.tup (encs T), .tup r.its, K.enc, v] = runB (callK tab j) 7 b_77 [.tup (encs T), .tup r.its, K.enc, v] from rfl, run_at, b77, ss_cons, s_whl, b_assoc]
    exact loop77 K hK v hv j (c + 1) (by omega) (fun c' e v0 hv0 T r t q1 q2 q3 q4 => by cases e; exact ih j v0 hv0 T r t q1 (by omega) q2 q3 q4) WN T r t none none none ht (by unfold WN; omega) h3 h4 h5
end Nm
end
section
set_option Elab.async false
set_option linter.all false
set_option maxRecDepth 100000
set_option maxHeartbeats 1000000
namespace Nm
open Nk
/-! ### the program goes on -/
def stD (S : List Pt) : D := .tup (encs S).reverse
def exq : Pt → List Pt
  | .again n p _ _ => List.replicate n p
  | .do_ s => [.do_ s]
  | .row l => [.row l]
  | .if_ K a b => [.if_ K a b]
  | .ch o a b => [.ch o a b]
  | .times n p => [.times n p]
def exps : List Pt → List Pt
  | [] => []
  | x :: S => exq x ++ exps S
theorem exps_app (a b : List Pt) : exps (a ++ b) = exps a ++ exps b := by
  induction a with
  | nil => rfl
  | cons x a ih => simp [exps, ih]
theorem exq_ok {d : Nat} {p : Pt} (h : Pt.ok d p) : exq p = [p] := by
  cases p with
  | again => cases d <;> exact h.elim
  | _ => rfl
theorem exps_ok {d : Nat} {l : List Pt} (h : ∀ p ∈ l, Pt.ok d p) : exps l = l := by
  induction l with
  | nil => rfl
  | cons p l ih => simp [exps, exq_ok (h p List.mem_cons_self), ih fun q hq => h q (List.mem_cons_of_mem _ hq)]
def agOk (d c : Nat) (r : Rw) (X : List Pt) (x : Pt) : Prop := ∀ n p e f, x = .again n p e f → e + f < d + c ∨ (e = d ∧ f = c ∧ ∀ U, goL (p :: U) r = goL (X ++ U) r)
def Inv (d c : Nat) (r : Rw) : List Pt → List Pt → Prop
  | _, [] => True
  | X, x :: S => agOk d c r X x ∧ Inv d c r (X ++ exq x) S
theorem Inv.congr {d c : Nat} {r : Rw} : ∀ {S X Y : List Pt}, (∀ U, goL (X ++ U) r = goL (Y ++ U) r) → Inv d c r X S → Inv d c r Y S
  | [], _, _, _, _ => trivial
  | x :: S, X, Y, h, ⟨h1, h2⟩ => ⟨fun n p e f hx => (h1 n p e f hx).imp id fun ⟨a, b, c⟩ => ⟨a, b, fun U => (c U).trans (h U)⟩, h2.congr fun U => by rw [List.append_assoc, List.append_assoc]; exact h _⟩
theorem Inv.old {d c : Nat} {r : Rw} : ∀ {S X : List Pt}, Inv d c r X S → ∀ n p e f, Pt.again n p e f ∈ S → e + f ≤ d + c
  | [], _, _, _, _, _, _, h => by cases h
  | x :: S, X, ⟨h1, h2⟩, n, p, e, f, h => by
    rcases List.mem_cons.mp h with rfl | h
    · rcases h1 n p e f rfl with q | ⟨q1, q2, _⟩ <;> omega
    · exact h2.old n p e f h
theorem Inv.new {d c : Nat} {r : Rw} : ∀ {S X : List Pt}, (∀ n p e f, Pt.again n p e f ∈ S → e + f < d + c) → Inv d c r X S
  | [], _, _ => trivial
  | x :: S, X, h => ⟨fun n p e f hx => .inl (h n p e f (hx ▸ List.mem_cons_self)), Inv.new fun n p e f hm => h n p e f (List.mem_cons_of_mem _ hm)⟩
theorem Inv.plain {d c : Nat} {r : Rw} : ∀ {l S X : List Pt}, (∀ p ∈ l, Pt.ok 4 p) → Inv d c r (X ++ l) S → Inv d c r X (l ++ S)
  | [], S, X, _, h => by simpa using h
  | x :: l, S, X, h, hi => ⟨fun n p e f hx => by
      have := h x List.mem_cons_self
      rw [hx] at this
      exact this.elim, Inv.plain (fun p hp => h p (List.mem_cons_of_mem _ hp)) (by
      rw [exq_ok (h x List.mem_cons_self), List.append_assoc]; exact hi)⟩
/-- what may stand on the stack -/
def Sok (x : Pt) : Prop := Pt.ok 5 x ∨ ∃ n p d c, x = .again n p d c ∧ n ≤ 100 ∧ Pt.ok 4 p
def Sl (S : List Pt) : Prop := ∀ x ∈ S, Sok x
theorem Sl.tail {p : Pt} {T : List Pt} (h : Sl (p :: T)) : Sl T := fun q hq => h q (List.mem_cons_of_mem _ hq)
theorem Sl.cons {p : Pt} {T : List Pt} (h1 : Sok p) (h : Sl T) : Sl (p :: T) := fun q hq => by
  rcases List.mem_cons.mp hq with rfl | hq
  · exact h1
  · exact h q hq
theorem Sl.app {l T : List Pt} (h1 : ∀ p ∈ l, Pt.ok 4 p) (h : Sl T) : Sl (l ++ T) := fun q hq => by
  rcases List.mem_append.mp hq with hq | hq
  · exact .inl (Pt.ok_succ _ _ (h1 q hq))
  · exact h q hq
def mkD (d c : Nat) : D := .tup [.int d, .int c]
def GoOut (c : Nat) : Out → D → Prop
  | .bad, _ => True
  | .fin r', x => ∃ d' : Nat, x = .tup [.tup r'.its, .tup [], .non, mkD d' c]
  | .ch o a b t r', x => ∃ (d' : Nat) (S' : List Pt), x = .tup [.tup r'.its, stD S', (Pt.ch o a b).enc, mkD d' (c + 1)] ∧ exps S' = t ∧ Sl S' ∧ Pt.ok 5 (.ch o a b) ∧ (∀ n p e f, Pt.again n p e f ∈ S' → e + f ≤ d' + c) ∧ d' + (Pt.ch o a b).wt + wts S' ≤ 1000 ∧ Rs r'
theorem ix_last (l : List D) (d : D) : op2 .ix (.tup (l ++ [d])) (.int (-1)) = some d := by
  have h : (-1 + ((l.length : Int) + 1)).toNat = l.length := by omega
  have h2 : (1 : Int) ≤ (l.length : Int) + 1 := by omega
  simp [place, h, h2]
theorem cut_last (l : List D) (d : D) : cut (l ++ [d]) none (some (-1)) = l := by
  have h : (-1 + ((l.length : Int) + 1)).toNat = l.length := by omega
  simp [cut, clip, h]
theorem nosrcs_rev : ∀ l : List D, nosrcs l = true → nosrcs l.reverse = true := fun l h => by
  have app : ∀ a b : List D, nosrcs a = true → nosrcs b = true → nosrcs (a ++ b) = true := fun a b ha hb => by
    induction a with
    | nil => exact hb
    | cons x a ih => simp [nosrcs] at ha ⊢; exact ⟨ha.1, ih ha.2⟩
  induction l with
  | nil => rfl
  | cons x l ih =>
    simp [nosrcs] at h
    simp only [List.reverse_cons]
    exact app _ _ (ih h.2) (by simp [nosrcs, h.1])
abbrev c38 : E := (wparts b_38).1
abbrev w38 : Ss := (wparts b_38).2
abbrev t38 : Ss := tl1 b_38
theorem b38 : b_38 = .cons (.whl c38 w38) t38 := rfl
def e38 (S : List Pt) (r : Rw) (d c : Nat) (x4 : Option D) : Env := [some (.int 2), some (.tup r.its), some (stD S), some (mkD d c), x4]
theorem cond38 (k : Nat) (S : List Pt) (r : Rw) (d c : Nat) (x4 : Option D) : whC (callK tab k) c38 (e38 S r d c x4) = ret (!S.isEmpty) := by
  have := eqO_tup_nil (nosrcs_rev _ (nosrcs_P S))
  cases S <;> simp [whC, c38, wparts, b_38, e38, stD, this, encs] at this ⊢ <;> simp [this]
/-- what comes in the place of a part -/
def unf (d c : Nat) (r : Rw) : Pt → List Pt
  | .row l => l
  | .if_ K a b => if K.has r = true then [a] else [b]
  | .times n p => if 0 < n then [p, .again (n - 1) p d c] else []
  | .again n p e f => if e = d ∧ f = c then [] else if 0 < n then [p, .again (n - 1) p d c] else []
  | _ => []
theorem eqO_mk (d c e f : Nat) : eqO (mkD d c) (mkD e f) = some (decide (d = e ∧ c = f)) := by
  unfold eqO mkD
  rw [if_pos (by simp [nosrc, nosrcs, dep, deps])]
  simp only [eqv, eqvs]
  congr 1
  rw [Bool.eq_iff_iff]
  simp
  omega
theorem unf_ev {x : Pt} (hx : Sok x) (h1 : ∀ s, x ≠ .do_ s) (h2 : ∀ o a b, x ≠ .ch o a b) (k : Nat) (r : Rw) (hr : Rs r) (hk : 62 ≤ k) (d c : Nat) : callK tab (k + 1) 37 [x.enc, .tup r.its, mkD d c] = ret (stD (unf d c r x)) := by
  rw [show callK tab (k + 1) 37 [x.enc, .tup r.its, mkD d c] = runB (callK tab k) 4 b_37 [x.enc, .tup r.its, mkD d c] from rfl]
  obtain ⟨j, rfl⟩ : ∃ j, k = j + 1 := ⟨k - 1, by omega⟩
  cases x with
  | do_ s => exact (h1 s rfl).elim
  | ch o a b => exact (h2 o a b rfl).elim
  | row l => simp [run_at, b_37, Pt.enc, place, asgTg, unf, stD]
  | if_ K a b =>
    have hK : K.ok := by
      rcases hx with h | ⟨_, _, _, _, e, _⟩
      · exact h.1
      · cases e
    have e1 := isof_ev hK.tv j r (by have := hr.2; omega)
    simp [run_at, b_37, Pt.enc, place, asgTg, unf, stD, e1]
    cases K.has r <;> simp [encs]
  | times n p =>
    simp [run_at, b_37, Pt.enc, place, asgTg, unf, stD]
    by_cases hn : 0 < n
    · have hn' : (0 : Int) < (n : Int) := by omega
      have : ((n : Int) - 1) = ((n - 1 : Nat) : Int) := by omega
      simp [hn, hn', encs, Pt.enc, this, mkD]
    · have hn' : ¬ (0 : Int) < (n : Int) := by omega
      simp [hn, hn', encs]
  | again n p e f =>
    have e1 := eqO_mk e f d c
    simp only [mkD] at e1 ⊢
    simp [run_at, b_37, Pt.enc, place, asgTg, unf, stD, e1]
    by_cases he : e = d ∧ f = c
    · simp [he, encs]
    · have he' : (decide (e = d) && decide (f = c)) = false := by
        simp only [← Bool.decide_and]; exact decide_eq_false he
      simp only [he, if_false]
      simp [he']
      by_cases hn : 0 < n
      · have hn' : (0 : Int) < (n : Int) := by omega
        have : ((n : Int) - 1) = ((n - 1 : Nat) : Int) := by omega
        simp [hn, hn', encs, Pt.enc, place, this]
      · have hn' : ¬ (0 : Int) < (n : Int) := by omega
        simp [hn, hn', encs, place]
theorem goL_rep {p : Pt} {r : Rw} (h : ∀ U, goL (p :: U) r = goL U r) (n : Nat) (U : List Pt) : goL (List.replicate n p ++ U) r = goL U r := by
  induction n with
  | zero => rfl
  | succ n ih => rw [List.replicate_succ, List.cons_append, h, ih]
theorem exps_rep {p : Pt} (h : Pt.ok 4 p) (n : Nat) : exps (List.replicate n p) = List.replicate n p := exps_ok (d := 4) fun q hq => by rw [List.eq_of_mem_replicate hq]; exact h
/-- a part taken apart -/
theorem unf_ok {x : Pt} {S : List Pt} (hx : Sok x) (h1 : ∀ s, x ≠ .do_ s) (h2 : ∀ o a b, x ≠ .ch o a b) {d c : Nat} {r : Rw} (hi : Inv d c r [] (x :: S)) (hS : Sl S) : goL (exps (unf d c r x ++ S)) r = goL (exps (x :: S)) r ∧ Inv d c r [] (unf d c r x ++ S) ∧ Sl (unf d c r x ++ S) ∧ wts (unf d c r x ++ S) + 1 ≤ wts (x :: S) := by
  have rep : ∀ (n : Nat) (p : Pt), n ≤ 100 → Pt.ok 4 p → Inv d c r (List.replicate n p) S → exps ((if 0 < n then [p, .again (n - 1) p d c] else []) ++ S) = List.replicate n p ++ exps S ∧ Inv d c r [] ((if 0 < n then [p, .again (n - 1) p d c] else []) ++ S) ∧ Sl ((if 0 < n then [p, .again (n - 1) p d c] else []) ++ S) ∧ wts ((if 0 < n then [p, .again (n - 1) p d c] else []) ++ S) ≤ n * (p.wt + 1) + wts S := fun n p hn hp hI => by
    cases n with
    | zero =>
      rw [if_neg (by omega)]
      exact ⟨rfl, hI, hS, by simp⟩
    | succ n =>
      rw [if_pos (by omega)]
      refine ⟨?_, ⟨fun n' p' e f hx => ?_, fun n' p' e f hx => ?_, ?_⟩, ?_, ?_⟩
      · show exq p ++ (List.replicate n p ++ exps S) = _
        rw [exq_ok hp, List.replicate_succ]; rfl
      · rw [hx] at hp; exact hp.elim
      · cases hx
        exact .inr ⟨rfl, rfl, fun U => by rw [exq_ok hp]; rfl⟩
      · rw [exq_ok hp]
        simpa [exq, List.replicate_succ] using hI
      · exact (hS.cons (.inr ⟨_, _, _, _, rfl, by omega, hp⟩)).cons (.inl (Pt.ok_succ _ _ hp))
      · simp [wts, Pt.wt, Nat.succ_mul]; omega
  cases x with
  | do_ s => exact (h1 s rfl).elim
  | ch o a b => exact (h2 o a b rfl).elim
  | row l =>
    have hp : l.length ≤ 4 ∧ ∀ p ∈ l, Pt.ok 4 p := by
      rcases hx with h | ⟨_, _, _, _, e, _⟩
      · exact h
      · cases e
    have hg : ∀ U, goL ([Pt.row l] ++ U) r = goL (l ++ U) r := fun U => by
      rw [List.cons_append, List.nil_append, goL]
    refine ⟨?_, ?_, hS.app hp.2, ?_⟩
    · simp only [unf, exps_app, exps_ok hp.2, exps, exq]
      exact (hg _).symm
    · exact Inv.plain hp.2 (hi.2.congr hg)
    · simp [unf, wts, Pt.wt, wts_append]; omega
  | if_ K a b =>
    have hp : K.ok ∧ Pt.ok 4 a ∧ Pt.ok 4 b := by
      rcases hx with h | ⟨_, _, _, _, e, _⟩
      · exact h
      · cases e
    have hl : ∀ p ∈ unf d c r (.if_ K a b), Pt.ok 4 p := fun p hm => by
      simp only [unf] at hm
      split at hm
      · rw [List.mem_singleton.mp hm]; exact hp.2.1
      · rw [List.mem_singleton.mp hm]; exact hp.2.2
    have hg : ∀ U, goL ([Pt.if_ K a b] ++ U) r = goL (unf d c r (.if_ K a b) ++ U) r := fun U => by
      rw [List.cons_append, List.nil_append, goL]
      simp only [unf]
      split <;> rfl
    refine ⟨?_, ?_, hS.app hl, ?_⟩
    · rw [exps_app, exps_ok hl]
      exact (hg _).symm
    · exact Inv.plain hl (hi.2.congr hg)
    · simp only [unf]
      split <;> simp [wts, Pt.wt] <;> omega
  | times n p =>
    have hp : n ≤ 100 ∧ Pt.ok 4 p := by
      rcases hx with h | ⟨_, _, _, _, e, _⟩
      · exact h
      · cases e
    have hg : ∀ U, goL ([Pt.times n p] ++ U) r = goL (List.replicate n p ++ U) r := fun U => by
      rw [List.cons_append, List.nil_append, goL]
    obtain ⟨r1, r2, r3, r4⟩ := rep n p hp.1 hp.2 (hi.2.congr hg)
    refine ⟨?_, r2, r3, ?_⟩
    · show goL (exps ((if 0 < n then [p, .again (n - 1) p d c] else []) ++ S)) r = _
      rw [r1]
      exact (hg _).symm
    · show wts ((if 0 < n then [p, .again (n - 1) p d c] else []) ++ S) + 1 ≤ _
      simp only [wts, Pt.wt]; omega
  | again n p e f =>
    have hp : n ≤ 100 ∧ Pt.ok 4 p := by
      rcases hx with h | ⟨_, _, _, _, e, h⟩
      · exact h.elim
      · cases e; exact h
    by_cases he : e = d ∧ f = c
    · have hu : unf d c r (.again n p e f) = [] := by simp [unf, he]
      rw [hu]
      have hg : ∀ U, goL (p :: U) r = goL U r := fun U => by
        rcases hi.1 n p e f rfl with h | ⟨_, _, h⟩
        · omega
        · exact h U
      refine ⟨?_, hi.2.congr fun U => ?_, hS, ?_⟩
      · exact (goL_rep hg n (exps S)).symm
      · exact goL_rep hg n U
      · simp [wts, Pt.wt]; omega
    · have hu : unf d c r (.again n p e f) = if 0 < n then [p, .again (n - 1) p d c] else [] := by simp only [unf, if_neg he]
      rw [hu]
      obtain ⟨r1, r2, r3, r4⟩ := rep n p hp.1 hp.2 hi.2
      refine ⟨?_, r2, r3, ?_⟩
      · rw [r1]; rfl
      · simp only [wts, Pt.wt]; omega
theorem gone_loop (k : Nat) (hk : 130 ≤ k) : ∀ (n : Nat) (S : List Pt) (r : Rw) (d c : Nat) (x4 : Option D), wts S + 1 ≤ n → d + wts S ≤ 1000 → Sl S → Rs r → Inv d c r [] S → goL (exps S) r ≠ .bad → ∃ x, (bnd (whlLoop (whC (callK tab k) c38) (whB (callK tab k) w38) n (e38 S r d c x4)) fun a => bnd (thenS (fun ρ => evSs (callK tab k) t38 ρ) a) endD) = ret x ∧ GoOut c (goL (exps S) r) x
  | 0, S, r, d, c, _, hn, _, _, _, _, _ => by omega
  | n + 1, S, r, d, c, x4, hn, hd, hS, hr, hi, hb => by
    obtain ⟨j, rfl⟩ : ∃ j, k = j + 3 := ⟨k - 3, by omega⟩
    rw [wl_step, cond38]
    cases S with
    | nil =>
      refine ⟨_, by simp [e38, t38, tl1, b_38, stD, encs]; rfl, ?_⟩
      simp only [exps, goL]
      exact ⟨d, rfl⟩
    | cons x S =>
      have hx := hS x List.mem_cons_self
      have hp := wt_pos x
      simp only [List.isEmpty_cons, Bool.not_false, r_bnd, cond_true]
      have hst : stD (x :: S) = .tup ((encs S).reverse ++ [x.enc]) := by simp [stD, encs]
      have hl := ix_last (encs S).reverse x.enc
      have hc := cut_last (encs S).reverse x.enc
      have hlen : S.length ≤ wts S := len_wts S
      by_cases h1 : ∃ s, x = .do_ s
      · obtain ⟨s, rfl⟩ := h1
        have ok : s.ok := by
          rcases hx with h | ⟨_, _, _, _, e, _⟩
          · exact h
          · cases e
        simp only [wts, Pt.wt] at hn hd
        cases hdn : done s r with
        | none => exact (hb (by simp only [exps, exq, List.cons_append, List.nil_append]; rw [goL, hdn])).elim
        | some r' =>
          have hm : s.much r = false := by
            cases hm : s.much r with
            | false => rfl
            | true => simp [done, hm] at hdn
          have hrs := done_rs hdn
          have hst2 : stp s r = r' := by
            unfold done at hdn
            rw [hm] at hdn
            simp at hdn
            exact hdn.2
          have e1 := ran_ev ok j r (by have := hr.2; omega) (fits_of hr.1 hm) (by rw [hst2]; have := hrs.1; omega) (.int 2)
          rw [hst2] at e1
          have hd0 : ((d : Int) == 1000) = false := by rw [beq_eq_false_iff_ne]; omega
          have go : bnd (whB (callK tab (j + 3)) w38 (e38 (.do_ s :: S) r d c x4)) (nextW fun ρ' => whlLoop (whC (callK tab (j + 3)) c38) (whB (callK tab (j + 3)) w38) n ρ') = whlLoop (whC (callK tab (j + 3)) c38) (whB (callK tab (j + 3)) w38) n (e38 S r' (d + 1) c (some (Pt.do_ s).enc)) := by
            have i0 : op2 .ix (Pt.do_ s).enc (.int 0) = some (.str .do_) := by simp [Pt.enc, place]
            have i1 : op2 .ix (Pt.do_ s).enc (.int 1) = some s.enc := by simp [Pt.enc, place]
            have i2 : inO (.str .do_) (.tup [.str .ours, .str .theirs]) = some false := rfl
            have m0 : op2 .ix (mkD d c) (.int 0) = some (.int d) := by simp [mkD, place]
            have m1 : op2 .ix (mkD d c) (.int 1) = some (.int c) := by simp [mkD, place]
            simp [whB, e38, w38, wparts, b_38, hst, setAll, hl, hc, i0, i1, i2, m0, m1, hd0, asgTg, e1, -p_ix_t]
            simp [stD, mkD]
          rw [go]
          have hg : goL (exps (.do_ s :: S)) r = goL (exps S) r' := by
            simp only [exps, exq, List.cons_append, List.nil_append]; rw [goL, hdn]
          rw [hg] at hb ⊢
          exact gone_loop (j + 3) hk n S r' (d + 1) c _ (by omega) (by omega) hS.tail hrs (Inv.new fun n p e f hm => by
            have := hi.2.old n p e f hm
            omega) hb
      · by_cases h2 : ∃ o a b, x = .ch o a b
        · obtain ⟨o, a, b, rfl⟩ := h2
          have ok : Pt.ok 5 (.ch o a b) := by
            rcases hx with h | ⟨_, _, _, _, e, _⟩
            · exact h
            · cases e
          have hg : goL (exps (.ch o a b :: S)) r = .ch o a b (exps S) r := by
            simp only [exps, exq, List.cons_append, List.nil_append]; rw [goL]
          rw [hg]
          refine ⟨_, ?_, d, S, rfl, rfl, hS.tail, ok, fun n p e f hm => hi.2.old n p e f hm, by simp only [wts] at hd; omega, hr⟩
          cases o <;> (
            simp [whB, e38, w38, wparts, b_38, hst, setAll, hl, hc, -p_ix_t]
            simp [Pt.enc, who, place, inO, strsD, mkD, stD]
            done)
        · have h1' : ∀ s, x ≠ .do_ s := fun s e => h1 ⟨s, e⟩
          have h2' : ∀ o a b, x ≠ .ch o a b := fun o a b e => h2 ⟨o, a, b, e⟩
          obtain ⟨u1, u2, u3, u4⟩ := unf_ok hx h1' h2' hi hS.tail
          have e1 := unf_ev hx h1' h2' (j + 2) r hr (by omega) d c
          have hlu : (unf d c r x).length ≤ wts (unf d c r x) := len_wts _
          rw [wts_append] at u4
          have ea : op2 .add (.tup (encs S).reverse) (stD (unf d c r x)) = some (stD (unf d c r x ++ S)) := by
            unfold stD
            rw [p_add_t (by simp [line]; omega)]
            simp
          obtain ⟨tg, l, hxe, hn1, hn2⟩ : ∃ t l, x.enc = .tup (.str t :: l) ∧ (t == .do_) = false ∧ inO (.str t) (.tup [.str .ours, .str .theirs]) = some false := by
            cases x with
            | do_ s => exact (h1' s rfl).elim
            | ch o a b => exact (h2' o a b rfl).elim
            | _ => exact ⟨_, _, rfl, rfl, rfl⟩
          have go : bnd (whB (callK tab (j + 3)) w38 (e38 (x :: S) r d c x4)) (nextW fun ρ' => whlLoop (whC (callK tab (j + 3)) c38) (whB (callK tab (j + 3)) w38) n ρ') = whlLoop (whC (callK tab (j + 3)) c38) (whB (callK tab (j + 3)) w38) n (e38 (unf d c r x ++ S) r d c (some x.enc)) := by
            have i0 : op2 .ix x.enc (.int 0) = some (.str tg) := by rw [hxe]; simp [place]
            have hn1' : decide (tg = .do_) = false := hn1
            simp [whB, e38, w38, wparts, b_38, hst, setAll, hl, hc, i0, hn2, hn1', asgTg, e1, ea, -p_ix_t]
            done
          rw [go]
          rw [← u1] at hb ⊢
          exact gone_loop (j + 3) hk n _ r d c _ (by rw [wts_append]; omega) (by rw [wts_append]; omega) u3 hr u2 hb
end Nm
end
section
set_option Elab.async false
set_option linter.all false
set_option maxRecDepth 100000
set_option maxHeartbeats 1000000
namespace Nm
open Nk
theorem gone_ev (k : Nat) (hk : 130 ≤ k) (S : List Pt) (r : Rw) (d c : Nat) (hd : d + wts S ≤ 1000) (hS : Sl S) (hr : Rs r) (hi : Inv d c r [] S) (hb : goL (exps S) r ≠ .bad) : ∃ x, callK tab (k + 3) 38 [.int 2, .tup r.its, stD S, mkD d c] = ret x ∧ GoOut c (goL (exps S) r) x := by
  rw [show callK tab (k + 3) 38 [.int 2, .tup r.its, stD S, mkD d c] = runB (callK tab k) 5 b_38 [.int 2, .tup r.its, stD S, mkD d c] from rfl, run_at, b38, ss_cons, s_whl, b_assoc]
  exact gone_loop k hk WN S r d c none (by unfold WN; omega) hd hS hr hi hb
def trD : Tr → D
  | .fin r => .tup [.str .end_, .tup r.its]
  | .nod o a b => .tup [who o, trD a, trD b]
theorem all_ev : ∀ (cc k : Nat) (S : List Pt) (r : Rw) (d c : Nat) (t : Tr), treeL cc (exps S) r = some t → c + cc ≤ 8 → 136 + 3 * cc ≤ k → d + wts S ≤ 1000 → Sl S → Rs r → Inv d c r [] S → callK tab k 40 [.int 2, .tup r.its, stD S, mkD d c] = ret (trD t) := by
  intro cc
  induction cc with
  | zero =>
    intro k S r d c t ht hc hk hd hS hr hi
    obtain ⟨j, rfl⟩ : ∃ j, k = j + 6 := ⟨k - 6, by omega⟩
    have hb : goL (exps S) r ≠ .bad := fun h => by simp [treeL, h, treeO] at ht
    obtain ⟨x, e1, e2⟩ := gone_ev j (by omega) S r d c hd hS hr hi hb
    rw [show callK tab (j + 6) 40 [.int 2, .tup r.its, stD S, mkD d c] = runB (callK tab (j + 3)) 7 b_40 [.int 2, .tup r.its, stD S, mkD d c] from rfl]
    cases hg : goL (exps S) r with
    | bad => exact (hb hg).elim
    | fin r' =>
      rw [hg] at e2
      obtain ⟨d', rfl⟩ := e2
      simp [treeL, hg, treeO] at ht
      subst ht
      simp [run_at, b_40, e1, asgTg, setAll, trD]
    | ch o a b t' r' => simp [treeL, hg, treeO, joinT] at ht
  | succ cc ih =>
    intro k S r d c t ht hc hk hd hS hr hi
    obtain ⟨j, rfl⟩ : ∃ j, k = j + 6 := ⟨k - 6, by omega⟩
    have hb : goL (exps S) r ≠ .bad := fun h => by simp [treeL, h, treeO] at ht
    obtain ⟨x, e1, e2⟩ := gone_ev j (by omega) S r d c hd hS hr hi hb
    rw [show callK tab (j + 6) 40 [.int 2, .tup r.its, stD S, mkD d c] = runB (callK tab (j + 3)) 7 b_40 [.int 2, .tup r.its, stD S, mkD d c] from rfl]
    cases hg : goL (exps S) r with
    | bad => exact (hb hg).elim
    | fin r' =>
      rw [hg] at e2
      obtain ⟨d', rfl⟩ := e2
      simp [treeL, hg, treeO] at ht
      subst ht
      simp [run_at, b_40, e1, asgTg, setAll, trD]
    | ch o a b t' r' =>
      rw [hg] at e2
      obtain ⟨d', S', rfl, q1, q2, q3, q4, q5, q6⟩ := e2
      simp only [treeL, hg, treeO] at ht
      cases h1 : treeL cc (a :: t') r' with
      | none => rw [h1] at ht; cases ht
      | some x =>
        cases h2 : treeL cc (b :: t') r' with
        | none => rw [h1, h2] at ht; cases ht
        | some y =>
          rw [h1, h2] at ht
          cases ht
          have hl := len_wts S'
          simp only [Pt.wt] at q5
          have part : ∀ (p : Pt) (z : Tr), Pt.ok 4 p → p.wt ≤ max a.wt b.wt → treeL cc (p :: t') r' = some z → callK tab (j + 3) 40 [.int 2, .tup r'.its, .tup ((encs S').reverse ++ [p.enc]), mkD d' (c + 1)] = ret (trD z) := fun p z hp hw hz => by
            have := ih (j + 3) (p :: S') r' d' (c + 1) z (by rw [exps, exq_ok hp, q1]; exact hz) (by omega) (by omega) (by simp only [wts]; omega) (q2.cons (.inl (Pt.ok_succ _ _ hp))) q6 (Inv.new fun n p' e f hm => by
              rcases List.mem_cons.mp hm with hh | hh
              · rw [← hh] at hp; exact hp.elim
              · have := q4 n p' e f hh; omega)
            simpa [stD, encs] using this
          have p1 := part a x q3.1 (by omega) h1
          have p2 := part b y q3.2 (by omega) h2
          have ad : ∀ dd : D, op2 .add (.tup (encs S').reverse) (.tup [dd]) = some (.tup ((encs S').reverse ++ [dd])) := fun dd => p_add_t (by simp [line]; omega)
          have c8 : ¬ ((8 : Int) < (c : Int) + 1) := by omega
          have i1 : op2 .ix (mkD d' (c + 1)) (.int 1) = some (.int (c + 1)) := by simp [mkD, place]
          have ec : cut [who o, a.enc, b.enc] (some 1) none = [a.enc, b.enc] := by simp [cut, clip]
          simp only [stD] at e1
          simp [run_at, b_40, e1, asgTg, setAll, trD, i1, c8, Pt.enc, ec, lcLoop, lcG_at, wipeE, stD, ad, p1, p2, place]
def wayD : Option (List Bool) → D
  | none => .non
  | some l => .tup (l.map bI)
def firstP (K : Kd) : Tr → Option (List Bool)
  | .fin r => if K.has r then some [] else none
  | .nod _ a b => match firstP K a with
    | some l => some (false :: l)
    | none => (firstP K b).map (true :: ·)
def Tr.all (P : Rw → Prop) : Tr → Prop
  | .fin r => P r
  | .nod _ a b => a.all P ∧ b.all P
def Tr.ht : Tr → Nat
  | .fin _ => 0
  | .nod _ a b => 1 + max a.ht b.ht
theorem firstP_len (K : Kd) : ∀ (t : Tr) (l : List Bool), firstP K t = some l → l.length ≤ t.ht
  | .fin r, l, h => by
    simp only [firstP] at h
    split at h
    · cases h; exact Nat.le_refl _
    · cases h
  | .nod o a b, l, h => by
    simp only [firstP] at h
    cases ha : firstP K a with
    | some m =>
      rw [ha] at h
      cases h
      have := firstP_len K a m ha
      simp [Tr.ht]; omega
    | none =>
      rw [ha] at h
      cases hb : firstP K b with
      | none => rw [hb] at h; cases h
      | some m =>
        rw [hb] at h
        cases h
        have := firstP_len K b m hb
        simp [Tr.ht]; omega
theorem first_ev (K : Kd) (hK : K.ok) : ∀ (t : Tr) (k : Nat), t.all Rs → t.ht ≤ 9 → 63 + t.ht ≤ k → callK tab k 41 [trD t, K.enc] = ret (wayD (firstP K t))
  | .fin r, k, hr, _, hk => by
    obtain ⟨j, rfl⟩ : ∃ j, k = j + 2 := ⟨k - 2, by omega⟩
    have e1 := isof_ev hK.tv j r (by have := hr.2; simp only [Tr.ht] at hk; omega)
    rw [show callK tab (j + 2) 41 [trD (.fin r), K.enc] = runB (callK tab (j + 1)) 4 b_41 [trD (.fin r), K.enc] from rfl]
    simp [run_at, b_41, trD, place, e1, firstP]
    cases K.has r <;> simp [wayD]
  | .nod o a b, k, hr, h9, hk => by
    simp only [Tr.ht] at hk h9
    obtain ⟨j, rfl⟩ : ∃ j, k = j + 1 := ⟨k - 1, by omega⟩
    have e1 := first_ev K hK a j hr.1 (by omega) (by omega)
    have e2 := first_ev K hK b j hr.2 (by omega) (by omega)
    have he : (eqO (who o) (.str .end_)) = some false := by cases o <;> rfl
    rw [show callK tab (j + 1) 41 [trD (.nod o a b), K.enc] = runB (callK tab j) 4 b_41 [trD (.nod o a b), K.enc] from rfl]
    have ad : ∀ (d : D) (l : List Bool), l.length ≤ 9 → op2 .add (.tup [d]) (.tup (l.map bI)) = some (.tup (d :: l.map bI)) := fun d l hl => p_add_t (by simp [line]; omega)
    cases ha : firstP K a with
    | some l =>
      rw [ha] at e1
      have := firstP_len K a l ha
      simp only [wayD] at e1
      simp [run_at, b_41, trD, place, he, forLoop, stF_at, asgTg, e1, ad _ l (by omega), firstP, ha, wayD, bI]
    | none =>
      rw [ha] at e1
      simp only [wayD] at e1
      cases hb : firstP K b with
      | none =>
        rw [hb] at e2
        simp only [wayD] at e2
        simp [run_at, b_41, trD, place, he, forLoop, stF_at, asgTg, e1, e2, firstP, ha, hb, wayD]
      | some l =>
        rw [hb] at e2
        have := firstP_len K b l hb
        simp only [wayD] at e2
        simp [run_at, b_41, trD, place, he, forLoop, stF_at, asgTg, e1, e2, ad _ l (by omega), firstP, ha, hb, wayD, bI]
/-- a plan -/
def planOf (K : Kd) : Tr → Option D
  | .fin r => if K.has r then some (.tup [.str .end_]) else none
  | .nod false a b => match planOf K a, planOf K b with
    | some x, some y => some (.tup [.str .theirs, x, y])
    | _, _ => none
  | .nod true a b => match planOf K a with
    | some x => some (.tup [.str .ours, .int 0, x])
    | none => (planOf K b).map fun y => .tup [.str .ours, .int 1, y]
def opD : Option D → D
  | none => .non
  | some d => d
theorem planOf_tup (K : Kd) : ∀ (t : Tr) (d : D), planOf K t = some d → (∃ l, d = .tup l) ∧ nosrc d = true ∧ dep d ≤ t.ht + 1
  | .fin r, d, h => by
    simp only [planOf] at h
    split at h
    · cases h; exact ⟨⟨_, rfl⟩, rfl, by simp [dep, deps]⟩
    · cases h
  | .nod false a b, d, h => by
    simp only [planOf] at h
    cases ha : planOf K a with
    | none => rw [ha] at h; cases h
    | some x =>
      cases hb : planOf K b with
      | none => rw [ha, hb] at h; cases h
      | some y =>
        rw [ha, hb] at h
        cases h
        have h1 := planOf_tup K a x ha
        have h2 := planOf_tup K b y hb
        exact ⟨⟨_, rfl⟩, by simp [nosrc, nosrcs, h1.2.1, h2.2.1], by simp [dep, deps, Tr.ht]; omega⟩
  | .nod true a b, d, h => by
    simp only [planOf] at h
    cases ha : planOf K a with
    | some x =>
      rw [ha] at h
      cases h
      have h1 := planOf_tup K a x ha
      exact ⟨⟨_, rfl⟩, by simp [nosrc, nosrcs, h1.2.1], by simp [dep, deps, Tr.ht]; omega⟩
    | none =>
      rw [ha] at h
      cases hb : planOf K b with
      | none => rw [hb] at h; cases h
      | some y =>
        rw [hb] at h
        cases h
        have h2 := planOf_tup K b y hb
        exact ⟨⟨_, rfl⟩, by simp [nosrc, nosrcs, h2.2.1], by simp [dep, deps, Tr.ht]; omega⟩
end Nm
end
section
set_option Elab.async false
set_option linter.all false
set_option maxRecDepth 100000
set_option maxHeartbeats 1000000
namespace Nm
open Nk
theorem opD_facts (K : Kd) (t : Tr) (h : t.ht ≤ 9) : nosrc (opD (planOf K t)) = true ∧ dep (opD (planOf K t)) ≤ 10 ∧ isN (opD (planOf K t)) = (planOf K t).isNone ∧ eqv (opD (planOf K t)) .non = (planOf K t).isNone := by
  cases hp : planOf K t with
  | none => exact ⟨rfl, by simp [opD, dep], rfl, rfl⟩
  | some d =>
    obtain ⟨⟨l, rfl⟩, h2, h3⟩ := planOf_tup K t d hp
    exact ⟨h2, by simp only [opD]; omega, rfl, rfl⟩
theorem in_two (x y : D) (hx : nosrc x = true) (hy : nosrc y = true) (dx : dep x ≤ 10) (dy : dep y ≤ 10) : inO .non (.lst [x, y]) = some (eqv x .non || eqv y .non) := by
  have h : (nosrc .non && nosrcs [x, y] && decide (dep .non ≤ 64) && decide (deps [x, y] + 1 ≤ 64)) = true := by
    simp [nosrc, nosrcs, hx, hy, dep, deps]
    omega
  show (if (nosrc .non && nosrcs [x, y] && decide (dep .non ≤ 64) && decide (deps [x, y] + 1 ≤ 64)) = true then some _ else none) = _
  rw [if_pos h]
  simp
theorem planof_ev (K : Kd) (hK : K.ok) : ∀ (t : Tr) (k : Nat), t.all Rs → t.ht ≤ 9 → 63 + t.ht ≤ k → callK tab k 42 [trD t, K.enc] = ret (opD (planOf K t))
  | .fin r, k, hr, _, hk => by
    obtain ⟨j, rfl⟩ : ∃ j, k = j + 2 := ⟨k - 2, by omega⟩
    have e1 := isof_ev hK.tv j r (by have := hr.2; simp only [Tr.ht] at hk; omega)
    rw [show callK tab (j + 2) 42 [trD (.fin r), K.enc] = runB (callK tab (j + 1)) 5 b_42 [trD (.fin r), K.enc] from rfl]
    simp [run_at, b_42, trD, place, e1, planOf]
    cases K.has r <;> simp [opD]
  | .nod o a b, k, hr, h9, hk => by
    simp only [Tr.ht] at hk h9
    obtain ⟨j, rfl⟩ : ∃ j, k = j + 1 := ⟨k - 1, by omega⟩
    have e1 := planof_ev K hK a j hr.1 (by omega) (by omega)
    have e2 := planof_ev K hK b j hr.2 (by omega) (by omega)
    obtain ⟨fa1, fa2, fa3, fa4⟩ := opD_facts K a (by omega)
    obtain ⟨fb1, fb2, fb3, fb4⟩ := opD_facts K b (by omega)
    have he : (eqO (who o) (.str .end_)) = some false := by cases o <;> rfl
    have ec : cut [who o, trD a, trD b] (some 1) none = [trD a, trD b] := by simp [cut, clip]
    have i1 := in_two _ _ fa1 fb1 fa2 fb2
    rw [fa4, fb4] at i1
    rw [show callK tab (j + 1) 42 [trD (.nod o a b), K.enc] = runB (callK tab j) 5 b_42 [trD (.nod o a b), K.enc] from rfl]
    cases o with
    | false =>
      have ht : eqO (who false) (.str .theirs) = some true := rfl
      simp [run_at, b_42, trD, place, he, ht, ec, lcLoop, lcG_at, wipeE, asgTg, e1, e2, i1]
      cases ha : planOf K a with
      | none => simp [planOf, ha, opD]
      | some x => cases hb : planOf K b <;> simp [planOf, ha, hb, opD]
    | true =>
      have ht : eqO (who true) (.str .theirs) = some false := rfl
      simp [run_at, b_42, trD, place, he, ht, ec, lcLoop, lcG_at, wipeE, asgTg, e1, e2, forLoop, stF_at, fa3, fb3]
      cases ha : planOf K a with
      | some x => simp [planOf, ha, opD]
      | none =>
        rw [ha] at fa3
        cases hb : planOf K b with
        | none => simp [planOf, ha, hb, opD, place]
        | some y =>
          rw [hb] at fb3
          have fb3 : isN y = false := fb3
          simp [planOf, ha, hb, opD, place, fb3]
theorem eqO_who (w : D) (o : Bool) (h : nosrc w = true) : eqO w (who o) = some (isW (cond o .ours .theirs) w) := by cases o <;> exact eqO_W w _ h
theorem isstr_any (w : D) (h : nosrc w = true) : ∃ b, op1 .isstr w = some (.bl b) ∧ (∀ t, isW t w = true → b = true) := by
  cases w with
  | src => cases h
  | str u => exact ⟨true, rfl, fun _ _ => rfl⟩
  | _ => exact ⟨false, rfl, fun _ h => by cases h⟩
theorem istup_any (w : D) (h : nosrc w = true) : ∃ b, op1 .istup w = some (.bl b) ∧ (b = true ↔ ∃ l, w = .tup l) := by
  cases w with
  | src => cases h
  | tup l => exact ⟨true, rfl, ⟨fun _ => ⟨l, rfl⟩, fun _ => rfl⟩⟩
  | _ => exact ⟨false, rfl, ⟨fun h => (by cases h), fun ⟨l, h⟩ => (by cases h)⟩⟩
theorem isEnd_tup (w : D) (l : List D) : isEnd (.tup (w :: l)) = (isW .end_ w && decide (l = [])) := by
  simp only [isEnd, eqv, eqvs]
  cases l with
  | nil => cases w <;> simp [eqv, eqvs, isW]
  | cons a l => simp [eqvs]
theorem pick_int {u : D} {p : Bool} (h : pick u = some p) : u = .int (cond p 1 0) := by
  cases u with
  | int i =>
    simp only [pick] at h
    split at h
    · cases h; subst_vars; rfl
    · split at h
      · cases h; subst_vars; rfl
      · cases h
  | _ => cases h
theorem fits_ev (K : Kd) (hK : K.ok) : ∀ (t : Tr) (k : Nat) (v : D), nosrc v = true → t.all Rs → 63 + t.ht ≤ k → callK tab k 43 [trD t, K.enc, v] = ret (.bl (planT K t v))
  | t, k, v, hv, hr, hk => by
    obtain ⟨j, rfl⟩ : ∃ j, k = j + 2 := ⟨k - 2, by omega⟩
    rw [show callK tab (j + 2) 43 [trD t, K.enc, v] = runB (callK tab (j + 1)) 3 b_43 [trD t, K.enc, v] from rfl]
    obtain ⟨bt, it, ht⟩ := istup_any v hv
    cases bt with
    | false =>
      have : planT K t v = false := by
        have no : ∀ l, v ≠ .tup l := fun l e => by have := ht.mpr ⟨l, e⟩; cases this
        cases v with
        | tup l => exact (no l rfl).elim
        | _ => cases t <;> rfl
      simp [run_at, b_43, it, this]
    | true =>
      obtain ⟨l, rfl⟩ := ht.mp rfl
      have hn : nosrcs l = true := hv
      match l, hn with
      | [], _ =>
        have : planT K t (.tup []) = false := by cases t <;> rfl
        simp [run_at, b_43, show eqO (.tup []) (.tup []) = some true from rfl, it, this]
      | w :: l, hn =>
        have hw : nosrc w = true ∧ nosrcs l = true := by simpa [nosrcs] using hn
        obtain ⟨bs, is, hs⟩ := isstr_any w hw.1
        have i0 : op2 .ix (.tup (w :: l)) (.int 0) = some w := by
          have : (0 : Int) < (l.length : Int) + 1 := by omega
          simp [place, this]
        have en := eqO_tup_nil (l := w :: l) hn
        cases t with
        | fin r =>
          have e1 := isof_ev hK.tv j r (by have := hr.2; simp only [Tr.ht] at hk; omega)
          have ew := eqO_W w .end_ hw.1
          have j0 : op2 .ix (trD (.fin r)) (.int 0) = some (.str .end_) := by simp [trD, place]
          have j1 : op2 .ix (trD (.fin r)) (.int 1) = some (.tup r.its) := by simp [trD, place]
          have pt : planT K (.fin r) (.tup (w :: l)) = ((isW .end_ w && decide (l = [])) && K.has r) := by
            simp only [planT, isEnd_tup]
          rw [pt]
          simp [run_at, b_43, it, en, i0, is, ew, j0, j1, -p_ix_t]
          cases hwe : isW .end_ w with
          | false => cases bs <;> simp
          | true =>
            have := hs _ hwe
            subst this
            simp
            by_cases hl : l = []
            · subst hl; simp [e1, j0, j1, -p_ix_t]
            · have hl' : ((l.length : Int) + 1 == 1) = false := by
                rw [beq_eq_false_iff_ne]
                have : l.length ≠ 0 := fun h => hl (List.length_eq_zero_iff.mp h)
                omega
              simp [hl, hl', j0, -p_ix_t]
        | nod o a b =>
          simp only [Tr.ht] at hk
          have ew := eqO_who w o hw.1
          have he : (eqO (who o) (.str .end_)) = some false := by cases o <;> rfl
          have j0 : op2 .ix (trD (.nod o a b)) (.int 0) = some (who o) := by simp [trD, place]
          have j1 : op2 .ix (trD (.nod o a b)) (.int 1) = some (trD a) := by simp [trD, place]
          have j2 : op2 .ix (trD (.nod o a b)) (.int 2) = some (trD b) := by simp [trD, place]
          simp [run_at, b_43, it, en, i0, is, ew, j0, he, -p_ix_t]
          cases hwe : isW (cond o .ours .theirs) w with
          | false =>
            have : planT K (.nod o a b) (.tup (w :: l)) = false := by
              match l with
              | [] => rfl
              | [_] => rfl
              | [_, _] => simp [planT, hwe]
              | _ :: _ :: _ :: _ => rfl
            rw [this]
            cases bs <;> simp
          | true =>
            have := hs _ hwe
            subst this
            simp [j0, he, -p_ix_t]
            by_cases h3 : l.length = 2
            case neg =>
              have h3' : ((l.length : Int) + 1 == 3) = false := by rw [beq_eq_false_iff_ne]; omega
              have : planT K (.nod o a b) (.tup (w :: l)) = false := by
                match l, h3 with
                | [], _ => rfl
                | [_], _ => rfl
                | [_, _], h => exact (h rfl).elim
                | _ :: _ :: _ :: _, _ => rfl
              rw [this]
              simp [h3', j0, he, -p_ix_t]
            case pos =>
              match l, h3, hw.2 with
              | [u, z], _, huz =>
                have huz' : nosrc u = true ∧ nosrc z = true := by simpa [nosrcs] using huz
                have a1 := fun (v : D) (h : nosrc v = true) => fits_ev K hK a (j + 1) v h hr.1 (by omega)
                have a2 := fun (v : D) (h : nosrc v = true) => fits_ev K hK b (j + 1) v h hr.2 (by omega)
                have u1 : op2 .ix (.tup [w, u, z]) (.int 1) = some u := by simp [place]
                have u2 : op2 .ix (.tup [w, u, z]) (.int 2) = some z := by simp [place]
                have g1 := a1 u huz'.1
                have g2 := a1 z huz'.2
                have g3 := a2 z huz'.2
                cases o with
                | false =>
                  have hth : eqO (who false) (.str .theirs) = some true := rfl
                  simp only [cond] at hwe
                  simp [j0, he, j1, j2, hth, u1, u2, g1, g3, planT, hwe, -p_ix_t]
                  cases planT K a u <;> simp [j1, j2, u1, u2, g1, g3, -p_ix_t]
                | true =>
                  have hth : eqO (who true) (.str .theirs) = some false := rfl
                  have ef := whole_any j u huz'.1
                  simp only [cond] at hwe
                  simp [j0, he, hth, u1, u2, ef, planT, hwe, -p_ix_t]
                  cases hpk : pick u with
                  | none => simp
                  | some p =>
                    have hu := pick_int hpk
                    subst hu
                    cases p
                    · simp [j1, j2, u1, u2, g2, -p_ix_t]
                    · simp [j1, j2, u1, u2, g3, -p_ix_t]
termination_by t => t
end Nm
end
section
set_option Elab.async false
set_option linter.all false
set_option maxRecDepth 100000
set_option maxHeartbeats 1000000
namespace Nm
open Nk
def Out.all (P : Rw → Prop) : Out → Prop
  | .fin r => P r
  | .ch _ _ _ _ r => P r
  | .bad => True
theorem goL_rs (T : List Pt) (r : Rw) (h : Rs r) : (goL T r).all Rs := by
  fun_induction goL T r with
  | case1 r => exact h
  | case2 => trivial
  | case3 r s t r' hd ih => exact ih (done_rs hd)
  | case4 r l t ih => exact ih h
  | case5 r n p t ih => exact ih h
  | case6 r K a b t hK ih => exact ih h
  | case7 r K a b t hK ih => exact ih h
  | case8 => exact h
  | case9 => trivial
theorem treeL_rs : ∀ (c : Nat) (T : List Pt) (r : Rw) (t : Tr), treeL c T r = some t → Rs r → t.all Rs ∧ t.ht ≤ c
  | 0, T, r, t, h, hr => by
    have g := goL_rs T r hr
    simp only [treeL] at h
    cases hg : goL T r with
    | bad => rw [hg] at h; cases h
    | fin r' => rw [hg] at h g; cases h; exact ⟨g, Nat.zero_le _⟩
    | ch o a b t' r' => rw [hg] at h; cases h
  | c + 1, T, r, t, h, hr => by
    have g := goL_rs T r hr
    simp only [treeL] at h
    cases hg : goL T r with
    | bad => rw [hg] at h; cases h
    | fin r' => rw [hg] at h g; cases h; exact ⟨g, Nat.zero_le _⟩
    | ch o a b t' r' =>
      rw [hg] at h g
      simp only [treeO] at h
      cases h1 : treeL c (a :: t') r' with
      | none => rw [h1] at h; cases h
      | some x =>
        cases h3 : treeL c (b :: t') r' with
        | none => rw [h1, h3] at h; cases h
        | some y =>
          rw [h1, h3] at h
          cases h
          have e1 := treeL_rs c _ _ x h1 g
          have e2 := treeL_rs c _ _ y h3 g
          exact ⟨⟨e1.1, e2.1⟩, by simp only [Tr.ht]; omega⟩
/-- what a claim is about -/
structure Good (p : Pt) (r : Rw) (K : Kd) : Prop where
  ok : Pt.ok 4 p
  cnt : p.cnt ≤ 12
  wt : p.wt ≤ 800
  sz : r.sz ≤ 60
  dp : r.dp ≤ 12
  kd : K.ok
variable {p : Pt} {r : Rw} {K : Kd}
theorem Good.rs (g : Good p r K) : Rs r := ⟨by have := g.sz; omega, by have := g.dp; omega⟩
theorem whole_tree (g : Good p r K) {t : Tr} (ht : treeL 7 [p] r = some t) (k : Nat) (hk : 160 ≤ k) : callK tab (k + 1) 44 [prog p, .tup r.its, K.enc] = ret (trD t) := by
  obtain ⟨j, rfl⟩ : ∃ j, k = j + 4 := ⟨k - 4, by omega⟩
  rw [show callK tab (j + 4 + 1) 44 [prog p, .tup r.its, K.enc] = runB (callK tab (j + 4)) 3 b_44 [prog p, .tup r.its, K.enc] from rfl]
  have e1 := needprog_ev (Pt.ok_succ _ _ g.ok) g.cnt (j + 2) (by omega)
  have e2 := neednest_ev g.dp g.sz (j + 2) (by omega)
  have e3 := needkind_ev g.kd j
  have e4 := needstands_ev p K (j + 3)
  have e5 := all_ev 7 (j + 4) [p] r 0 0 t (by simpa [exps, exq_ok g.ok] using ht) (by omega) (by omega) (by simp [wts]; have := g.wt; omega) (fun x hx => by rw [List.mem_singleton.mp hx]; exact .inl (Pt.ok_succ _ _ g.ok)) g.rs ⟨fun n q e f hx => by
    have := g.ok
    rw [hx] at this
    exact this.elim, trivial⟩
  simp [stD, mkD, encs] at e5
  have i0 : op2 .ix (prog p) (.int 0) = some (.int 2) := by simp [prog, place]
  have i1 : op2 .ix (prog p) (.int 1) = some p.enc := by simp [prog, place]
  simp [run_at, b_44, e1, e2, e3, e4, e5, i0, i1]
theorem picksto_ev (g : Good p r K) {t : Tr} (ht : treeL 7 [p] r = some t) (k : Nat) (hk : 161 ≤ k) : callK tab (k + 1) 45 [prog p, .tup r.its, K.enc] = ret (wayD (firstP K t)) := by
  rw [show callK tab (k + 1) 45 [prog p, .tup r.its, K.enc] = runB (callK tab k) 3 b_45 [prog p, .tup r.its, K.enc] from rfl]
  obtain ⟨j, rfl⟩ : ∃ j, k = j + 1 := ⟨k - 1, by omega⟩
  obtain ⟨h1, h2⟩ := treeL_rs 7 [p] r t ht g.rs
  simp [run_at, b_45, whole_tree g ht j (by omega), first_ev K g.kd t (j + 1) h1 (by omega) (by omega)]
theorem plan_ev (g : Good p r K) {t : Tr} (ht : treeL 7 [p] r = some t) (k : Nat) (hk : 161 ≤ k) : callK tab (k + 1) 46 [prog p, .tup r.its, K.enc] = ret (opD (planOf K t)) := by
  rw [show callK tab (k + 1) 46 [prog p, .tup r.its, K.enc] = runB (callK tab k) 3 b_46 [prog p, .tup r.its, K.enc] from rfl]
  obtain ⟨j, rfl⟩ : ∃ j, k = j + 1 := ⟨k - 1, by omega⟩
  obtain ⟨h1, h2⟩ := treeL_rs 7 [p] r t ht g.rs
  simp [run_at, b_46, whole_tree g ht j (by omega), planof_ev K g.kd t (j + 1) h1 (by omega) (by omega)]
theorem ispl_ev (g : Good p r K) {t : Tr} (ht : treeL 7 [p] r = some t) (k : Nat) (hk : 161 ≤ k) (v : D) (hv : nosrc v = true) : callK tab (k + 1) 47 [prog p, .tup r.its, K.enc, v] = ret (.bl (planT K t v)) := by
  rw [show callK tab (k + 1) 47 [prog p, .tup r.its, K.enc, v] = runB (callK tab k) 4 b_47 [prog p, .tup r.its, K.enc, v] from rfl]
  obtain ⟨j, rfl⟩ : ∃ j, k = j + 1 := ⟨k - 1, by omega⟩
  obtain ⟨h1, h2⟩ := treeL_rs 7 [p] r t ht g.rs
  simp [run_at, b_47, whole_tree g ht j (by omega), fits_ev K g.kd t (j + 1) v hv h1 (by omega)]
/-! ### both sides agree -/
def wonL (K : Kd) (l : List (List Bool × Rw)) : List (List Bool) := l.filterMap fun x => if K.has x.2 then some x.1 else none
theorem wonL_app (K : Kd) (a b : List (List Bool × Rw)) : wonL K (a ++ b) = wonL K a ++ wonL K b := by simp [wonL]
theorem won_first (K : Kd) : ∀ (t : Tr) (ps : List Bool), (wonL K (leaves t ps)).head? = (firstP K t).map (ps ++ ·)
  | .fin r, ps => by
    simp only [leaves, wonL, firstP, List.filterMap_cons, List.filterMap_nil]
    cases K.has r <;> simp
  | .nod o a b, ps => by
    simp only [leaves, wonL_app, List.head?_append, won_first K a, won_first K b, firstP]
    cases ha : firstP K a with
    | some l => simp
    | none => cases hb : firstP K b <;> simp
theorem wins_plan (K : Kd) : ∀ t : Tr, winsT K t = (planOf K t).isSome
  | .fin r => by simp only [winsT, planOf]; cases K.has r <;> rfl
  | .nod false a b => by
    simp only [winsT, planOf, wins_plan K a, wins_plan K b]
    cases planOf K a <;> cases planOf K b <;> rfl
  | .nod true a b => by
    simp only [winsT, planOf, wins_plan K a, wins_plan K b]
    cases planOf K a <;> cases planOf K b <;> rfl
theorem plan_good (K : Kd) : ∀ (t : Tr) (d : D), planOf K t = some d → planT K t d = true
  | .fin r, d, h => by
    simp only [planOf] at h
    split at h
    · cases h
      rename_i hh
      simp only [planT, hh]
      rfl
    · cases h
  | .nod false a b, d, h => by
    simp only [planOf] at h
    cases ha : planOf K a with
    | none => rw [ha] at h; cases h
    | some x =>
      cases hb : planOf K b with
      | none => rw [ha, hb] at h; cases h
      | some y =>
        rw [ha, hb] at h
        cases h
        simp [planT, isW, plan_good K a x ha, plan_good K b y hb]
  | .nod true a b, d, h => by
    simp only [planOf] at h
    cases ha : planOf K a with
    | some x =>
      rw [ha] at h
      cases h
      simp [planT, isW, pick, plan_good K a x ha]
    | none =>
      rw [ha] at h
      cases hb : planOf K b with
      | none => rw [hb] at h; cases h
      | some y =>
        rw [hb] at h
        cases h
        simp [planT, isW, pick, plan_good K b y hb]
end Nm
end
section
set_option Elab.async false
set_option linter.all false
set_option maxRecDepth 100000
set_option maxHeartbeats 1000000
namespace Nm
open Nk
/-! ### draws -/
def Sv (st : Sr) : Prop := 0 ≤ st.n ∧ st.n < 2147483179
def wp {α : Type} (m : M α) (Q : α → Prop) : Prop := ∀ st, Sv st → ∃ a st', m st = .ok a st' ∧ Sv st' ∧ Q a
theorem wp_ret {α : Type} {a : α} {Q : α → Prop} (h : Q a) : wp (ret a) Q := fun st v => ⟨a, st, rfl, v, h⟩
theorem wp_bnd {α β : Type} {m : M α} {f : α → M β} {P : α → Prop} {Q : β → Prop} (h : wp m P) (k : ∀ a, P a → wp (f a) Q) : wp (bnd m f) Q := fun st v => by
  obtain ⟨a, s1, e1, v1, p⟩ := h st v
  obtain ⟨b, s2, e2, v2, q⟩ := k a p s1 v1
  exact ⟨b, s2, by unfold bnd; rw [e1]; exact e2, v2, q⟩
theorem wp_mono {α : Type} {m : M α} {P Q : α → Prop} (h : wp m P) (k : ∀ a, P a → Q a) : wp m Q := fun st v => by
  obtain ⟨a, s1, e1, v1, p⟩ := h st v
  exact ⟨a, s1, e1, v1, k a p⟩
theorem draw_wp (k : Nat) {m : Int} {n : Nat} (e : m = n) (h0 : 0 < n) (h1 : n < 1073741824) : wp (callK tab (k + 1) 49 [.src, .int m]) (fun d => ∃ i : Nat, d = .int i ∧ i < n) := fun st v => by
  have ev : callK tab (k + 1) 49 [.src, .int m] = drawP [.src, .int m] := rfl
  rw [ev]
  have hm : 0 < m := by omega
  show ∃ a st', (if 0 < m ∧ m < 1073741824 ∧ 0 ≤ st.n ∧ st.n < 2147483179 then
      (if 0 < st.c then .ok (.int (st.c % m)) ⟨st.c / m, st.n⟩
      else .ok (.int (((((st.n * 48271 + 97) % 2147483179) * (((st.n * 48271 + 97) % 2147483179) / 47 + 34)) % 2147483171) / 32 % m)) ⟨st.c, (st.n * 48271 + 97) % 2147483179⟩) else .stuck : R D) = .ok a st' ∧ _
  rw [if_pos ⟨hm, by omega, v.1, v.2⟩]
  split
  · refine ⟨_, _, rfl, v, (st.c % m).toNat, ?_, ?_⟩
    · rw [Int.toNat_of_nonneg (Int.emod_nonneg _ (by omega))]
    · have := Int.emod_lt_of_pos st.c hm; omega
  · refine ⟨_, _, rfl, ⟨Int.emod_nonneg _ (by decide), Int.emod_lt_of_pos _ (by decide)⟩, (((((st.n * 48271 + 97) % 2147483179) * (((st.n * 48271 + 97) % 2147483179) / 47 + 34)) % 2147483171) / 32 % m).toNat, ?_, ?_⟩
    · rw [Int.toNat_of_nonneg (Int.emod_nonneg _ (by omega))]
    · have := Int.emod_lt_of_pos ((((st.n * 48271 + 97) % 2147483179) * (((st.n * 48271 + 97) % 2147483179) / 47 + 34)) % 2147483171 / 32) hm; omega
theorem bI_lt {i : Nat} (h : i < 2) : ∃ b, D.int i = bI b := by
  match i, h with
  | 0, _ => exact ⟨false, rfl⟩
  | 1, _ => exact ⟨true, rfl⟩
theorem coin_wp (k : Nat) : wp (callK tab (k + 1) 49 [.src, .int 2]) (fun d => ∃ b, d = bI b) := wp_mono (draw_wp k (n := 2) rfl (by decide) (by decide)) fun d ⟨i, e, h⟩ => by
  obtain ⟨b, e2⟩ := bI_lt h
  exact ⟨b, e.trans e2⟩
theorem choice_wp (k : Nat) {l : List D} (h0 : l ≠ []) (h1 : l.length < 1000) : wp (callK tab (k + 2) 50 [.src, .lst l]) (fun d => d ∈ l) := by
  rw [show callK tab (k + 2) 50 [.src, .lst l] = runB (callK tab (k + 1)) 2 b_50 [.src, .lst l] from rfl]
  have hp : 0 < l.length := List.length_pos_iff.mpr h0
  simp [run_at, b_50]
  refine wp_bnd (draw_wp k rfl hp (by omega)) ?_
  rintro _ ⟨i, rfl, hi⟩
  simp [place_nat hi, List.getElem?_eq_getElem hi]
  exact wp_ret (List.getElem_mem hi)
theorem wp_for {α : Type} {g : D → Env → M Fl} {f : Fl → M α} {Q : α → Prop} (P : List D → Env → Prop) {xs : List D} {ρ : Env} (h : P xs ρ) (step : ∀ x xs ρ, P (x :: xs) ρ → ∀ Z : Fl → Prop, (∀ ρ', P xs ρ' → Z (.nx ρ')) → (∀ d, wp (f (.rt d)) Q → Z (.rt d)) → wp (g x ρ) Z) (fin : ∀ ρ, P [] ρ → wp (f (.nx ρ)) Q) : wp (bnd (forLoop g xs ρ) f) Q := by
  induction xs generalizing ρ with
  | nil => exact fin ρ h
  | cons x xs ih =>
    rw [forLoop, b_assoc]
    refine wp_bnd (step x xs ρ h (fun fl => (∃ ρ', fl = .nx ρ' ∧ P xs ρ') ∨ (∃ d, fl = .rt d ∧ wp (f (.rt d)) Q)) (fun ρ' hp => .inl ⟨ρ', rfl, hp⟩) fun d hd => .inr ⟨d, rfl, hd⟩) ?_
    rintro fl (⟨ρ', rfl, h'⟩ | ⟨d, rfl, h'⟩)
    · exact ih h'
    · exact h'
theorem wp_lc {P : D → Prop} {g : D → M (Option D)} {xs : List D} (h : ∀ x ∈ xs, ∀ Z : Option D → Prop, (∀ d, P d → Z (some d)) → wp (g x) Z) : wp (lcLoop g xs) fun ys => ys.length = xs.length ∧ ∀ y ∈ ys, P y := by
  induction xs with
  | nil => exact wp_ret ⟨rfl, fun y hy => by cases hy⟩
  | cons x xs ih =>
    rw [lcLoop]
    refine wp_bnd (h x List.mem_cons_self (fun o => ∃ d, o = some d ∧ P d) fun d hd => ⟨d, rfl, hd⟩) ?_
    rintro _ ⟨d, rfl, hd⟩
    refine wp_bnd (ih fun y hy => h y (List.mem_cons_of_mem _ hy)) ?_
    rintro ys ⟨h1, h2⟩
    exact wp_ret ⟨by simp [h1], fun y hy => by
      rcases List.mem_cons.mp hy with rfl | hy
      · exact hd
      · exact h2 y hy⟩
theorem wp_sub {g : D → M (Option D)} {xs : List D} (h : ∀ x ∈ xs, wp (g x) fun o => o = none ∨ o = some x) : wp (lcLoop g xs) fun ys => ys.Sublist xs := by
  induction xs with
  | nil => exact wp_ret .slnil
  | cons x xs ih =>
    rw [lcLoop]
    refine wp_bnd (h x List.mem_cons_self) ?_
    rintro o ho
    refine wp_bnd (ih fun y hy => h y (List.mem_cons_of_mem _ hy)) ?_
    intro ys hs
    rcases ho with rfl | rfl
    · exact wp_ret (hs.cons _)
    · exact wp_ret (hs.cons₂ _)
theorem nats_of {m : Nat} : ∀ (ys : List D), (∀ y ∈ ys, ∃ i : Nat, y = .int i ∧ i < m) → ∃ l : List Nat, ys = l.map (fun (n : Nat) => D.int n) ∧ ∀ i ∈ l, i < m
  | [], _ => ⟨[], rfl, fun i h => by cases h⟩
  | y :: ys, h => by
    obtain ⟨i, rfl, hi⟩ := h y List.mem_cons_self
    obtain ⟨l, rfl, hl⟩ := nats_of ys fun z hz => h z (List.mem_cons_of_mem _ hz)
    exact ⟨i :: l, rfl, fun j hj => by
      rcases List.mem_cons.mp hj with rfl | hj
      · exact hi
      · exact hl j hj⟩
theorem bools_of : ∀ (ys : List D), (∀ y ∈ ys, ∃ b, y = bI b) → ∃ l : List Bool, ys = l.map bI
  | [], _ => ⟨[], rfl⟩
  | y :: ys, h => by
    obtain ⟨i, rfl⟩ := h y List.mem_cons_self
    obtain ⟨l, rfl⟩ := bools_of ys fun z hz => h z (List.mem_cons_of_mem _ hz)
    exact ⟨i :: l, rfl⟩
section
variable {cal : Nat → List D → M D} {ρ : Env}
theorem s_app {i : Nat} {e : E} {a : List D} (h : ρ[i]? = some (some (.lst a))) (hl : a.length < line) : evS cal (.app i e) ρ = bnd (evE cal e ρ) fun x => ret (.nx (ρ.set i (some (.lst (a ++ [x]))))) := by
  rw [evS, h]
  show bnd _ _ = bnd _ _
  congr 1; funext x
  rw [if_pos hl]
theorem e_own {i : Nat} {a : List D} (h : ρ[i]? = some (some (.lst a))) : evE cal (.tupOwn i) ρ = ret (.tup a) := by
  rw [evE, h]
end
theorem range_nat (m : Nat) (h : m < 1000) : asRange (.int m) = ret ((List.range m).map fun (i : Nat) => D.int i) := by
  show (if small (m : Int) ∧ (m : Int) ≤ line then ret (rangeD m) else stk) = _
  rw [if_pos ⟨by simp [small]; omega, by simp [line]; omega⟩]
  simp [rangeD]
/-! ### random nestings -/
theorem split_at : ∀ (r : Rw) (n : Nat), n ≤ r.len → ∃ A B : Rw, r = A.app B ∧ A.len = n
  | r, 0, _ => ⟨.nil, r, rfl, rfl⟩
  | .nil, n + 1, h => by simp [Rw.len] at h
  | .cons s i r, n + 1, h => by
    obtain ⟨A, B, rfl, hA⟩ := split_at r n (by simp [Rw.len] at h; omega)
    exact ⟨.cons s i A, B, rfl, by simp [Rw.len, hA]; omega⟩
theorem cut_to (a b : List D) {n : Nat} (h : a.length = n) : cut (a ++ b) none (some n) = a := by
  have h2 : ¬ ((n : Int) < 0) := by omega
  simp [cut, clip, h, h2]
  try exact List.take_left' h
theorem cut_from (a b : List D) {n : Nat} (h : a.length = n) : cut (a ++ b) (some n) none = b := by
  have h2 : ¬ ((n : Int) < 0) := by omega
  simp [cut, clip, h, h2]
  try rw [List.drop_left' h]
  try exact List.take_of_length_le (by omega)
theorem dp_sz (r : Rw) : r.dp ≤ r.sz := by
  induction r with
  | nil => exact Nat.le_refl _
  | cons s i r hi hr => simp [Rw.dp, Rw.sz]; omega
theorem ix_mid (a b : List D) (x : D) {n : Nat} (h : a.length = n) : op2 .ix (.tup (a ++ x :: b)) (.int n) = some x := by
  have h2 : n < (a ++ x :: b).length := by simp [h]
  simp only [p_ix_t, place_nat h2]
  simp [← h]
theorem put_here (A B : Rw) (s : Bool) (h : A.len + B.len ≤ 1000) : (bnd (ofO (op2 .add (.tup A.its) (.tup [.tup [bI s, .tup []]]))) fun x => ofO (op2 .add x (.tup B.its)) : M D) = ret (.tup (A.app (.cons s .nil B)).its) := by
  rw [p_add_t (by simp [line]; omega), ofO_some, r_bnd, p_add_t (by simp [line]; omega)]
  simp [Rw.its]
theorem put_wp : ∀ (deep k : Nat) (r : Rw) (s : Bool), deep + 2 ≤ k → r.sz ≤ 100 → wp (callK tab k 57 [.src, .tup r.its, bI s, .int deep]) fun d => ∃ q : Rw, d = .tup q.its ∧ q.sz = r.sz + 1 := by
  intro deep
  induction deep with
  | zero =>
    intro k r s hk hr
    obtain ⟨j, rfl⟩ : ∃ j, k = j + 2 := ⟨k - 2, by omega⟩
    rw [show callK tab (j + 2) 57 [.src, .tup r.its, bI s, .int ((0 : Nat) : Int)] = runB (callK tab (j + 1)) 6 b_57 [.src, .tup r.its, bI s, .int ((0 : Nat) : Int)] from rfl]
    have hl := r.len_sz
    simp [run_at, b_57]
    refine wp_bnd (draw_wp j (n := r.len + 1) (by simp) (by omega) (by omega)) ?_
    rintro _ ⟨i, rfl, hi⟩
    obtain ⟨A, B, rfl, hA⟩ := split_at r i (by omega)
    have c1 := cut_to A.its B.its (n := i) (by simpa using hA)
    have c2 := cut_from A.its B.its (n := i) (by simpa using hA)
    simp at hl hr
    have ph := put_here A B s (by omega)
    have fin : wp (ret (D.tup (A.app (.cons s .nil B)).its)) fun d => ∃ q : Rw, d = .tup q.its ∧ q.sz = (A.app B).sz + 1 := wp_ret ⟨_, rfl, by simp [Rw.sz]; omega⟩
    rw [← ph] at fin
    by_cases h1 : (i : Int) < (A.len : Int) + (B.len : Int)
    · simp [asgTg, h1, c1, c2, bnd_ret]
      simpa using fin
    · simp [asgTg, h1, c1, c2]
      simpa using fin
  | succ deep ih =>
    intro k r s hk hr
    obtain ⟨j, rfl⟩ : ∃ j, k = j + 2 := ⟨k - 2, by omega⟩
    rw [show callK tab (j + 2) 57 [.src, .tup r.its, bI s, .int ((deep + 1 : Nat) : Int)] = runB (callK tab (j + 1)) 6 b_57 [.src, .tup r.its, bI s, .int ((deep + 1 : Nat) : Int)] from rfl]
    have hl := r.len_sz
    simp [run_at, b_57]
    refine wp_bnd (draw_wp j (n := r.len + 1) (by simp) (by omega) (by omega)) ?_
    rintro _ ⟨i, rfl, hi⟩
    obtain ⟨A, B, rfl, hA⟩ := split_at r i (by omega)
    have c1 := cut_to A.its B.its (n := i) (by simpa using hA)
    have c2 := cut_from A.its B.its (n := i) (by simpa using hA)
    simp at hl hr
    have ph := put_here A B s (by omega)
    have fin : wp (ret (D.tup (A.app (.cons s .nil B)).its)) fun d => ∃ q : Rw, d = .tup q.its ∧ q.sz = (A.app B).sz + 1 := wp_ret ⟨_, rfl, by simp [Rw.sz]; omega⟩
    rw [← ph] at fin
    have hd : (0 : Int) < (deep : Int) + 1 := by omega
    by_cases h1 : (i : Int) < (A.len : Int) + (B.len : Int)
    · simp [asgTg, h1, hd]
      refine wp_bnd (draw_wp j (n := 3) rfl (by decide) (by decide)) ?_
      rintro _ ⟨z, rfl, hz⟩
      by_cases h2 : (0 : Int) < (z : Int)
      · match B with
        | .nil => simp [Rw.len] at h1; omega
        | .cons s' i' B =>
          have hi' : i'.sz ≤ 100 := by simp [Rw.sz] at hr; omega
          have ihh := ih (j + 1) i' s (by omega) hi'
          have im := ix_mid A.its B.its (.tup [bI s', .tup i'.its]) (n := i) (by simpa using hA)
          have c3 := cut_from (A.its ++ [.tup [bI s', .tup i'.its]]) B.its (n := i + 1) (by simpa using hA)
          simp [Rw.its] at c1 c3 ⊢
          have h2' : 0 < z := by omega
          have b0 : op2 .ix (.tup [bI s', .tup i'.its]) (.int 0) = some (bI s') := by simp [place]
          have b1 : op2 .ix (.tup [bI s', .tup i'.its]) (.int 1) = some (.tup i'.its) := by simp [place]
          have hpl : place (A.len + (Rw.cons s' i' B).len) (i : Int) = some i := place_nat (by omega)
          have hge : (A.its ++ .tup [bI s', .tup i'.its] :: B.its)[i]? = some (.tup [bI s', .tup i'.its]) := by
            rw [List.getElem?_append_right (by simp [hA])]
            simp [hA]
          simp [h2', hpl, hge, b0, b1, c1, c3, -p_ix_t]
          refine wp_bnd ihh ?_
          rintro _ ⟨q, rfl, hq⟩
          simp only [Rw.len] at hl
          rw [p_add_t (by simp [line]; omega), ofO_some, r_bnd, p_add_t (by simp [line]; omega)]
          refine wp_ret ⟨A.app (.cons s' q B), by simp [Rw.its], by simp [Rw.sz, hq]; omega⟩
      · have hz0 : z = 0 := by omega
        subst hz0
        simp [c1, c2]
        simpa using fin
    · simp [asgTg, h1, c1, c2]
      simpa using fin
theorem nesting_wp (k : Nat) (hk : 14 ≤ k) : wp (callK tab (k + 1) 56 [.src, .int 2, .int 3]) fun d => ∃ q : Rw, d = .tup q.its ∧ q.sz ≤ 3 := by
  obtain ⟨j, rfl⟩ : ∃ j, k = j + 1 := ⟨k - 1, by omega⟩
  rw [show callK tab (j + 1 + 1) 56 [.src, .int 2, .int 3] = runB (callK tab (j + 1)) 5 b_56 [.src, .int 2, .int 3] from rfl]
  simp [run_at, b_56, asgTg]
  refine wp_bnd (draw_wp j (n := 4) rfl (by decide) (by decide)) ?_
  rintro _ ⟨n, rfl, hn⟩
  rw [range_nat n (by omega), r_bnd]
  refine wp_for (fun xs ρ => ∃ (q : Rw) (x : Option D), q.sz + xs.length ≤ 3 ∧ ρ = [some .src, some (.int 2), some (.int 3), some (.tup q.its), x]) ⟨.nil, none, by simp [Rw.sz]; omega, rfl⟩ ?_ ?_
  · rintro x xs ρ ⟨q, y, h, rfl⟩ Z nx rt
    simp [stF_at, asgTg]
    refine wp_bnd (coin_wp j) ?_
    rintro _ ⟨b, rfl⟩
    have := put_wp 10 (j + 1) q b (by omega) (by simp at h; omega)
    refine wp_bnd this ?_
    rintro _ ⟨q', rfl, hq⟩
    exact wp_ret (nx _ ⟨q', some x, by simp at h; omega, rfl⟩)
  · rintro ρ ⟨q, y, h, rfl⟩
    simp
    exact wp_ret ⟨q, rfl, by simpa using h⟩
/-! ### random kinds -/
theorem kind_wp (k : Nat) {m : Int} {mm : Nat} (e : m = mm) (h0 : 0 < mm) (h3 : mm ≤ 3) : wp (callK tab (k + 3) 58 [.src, .int 2, .int m]) fun d => ∃ K : Kd, d = K.enc ∧ K.ok := by
  subst e
  rw [show callK tab (k + 3) 58 [.src, .int 2, .int mm] = runB (callK tab (k + 2)) 10 b_58 [.src, .int 2, .int mm] from rfl]
  simp [run_at, b_58, asgTg]
  refine wp_bnd (draw_wp (k + 1) (n := mm) rfl h0 (by omega)) ?_
  rintro _ ⟨i, rfl, hi⟩
  simp only [p_add, ofO_some, r_bnd]
  rw [show (1 : Int) + (i : Int) = ((i + 1 : Nat) : Int) by omega]
  generalize hmm : i + 1 = n
  have hn : n ≤ 3 := by omega
  have h0 : 0 < n := by omega
  rw [range_nat n (by omega), r_bnd]
  refine wp_for (fun xs ρ => (∀ x ∈ xs, ∃ h : Nat, h < n ∧ x = .int h) ∧ ∃ (T : Tb) (x5 x6 x7 x8 x9 : Option D), T.length + xs.length = n ∧ (∀ p ∈ T, (p.1.length = n ∧ p.2.length = n) ∧ (∀ x ∈ p.1, x < n) ∧ ∀ x ∈ p.2, x < n) ∧ ρ = [some .src, some (.int 2), some (.int mm), some (.int n), some (.lst (T.map fun p => .tup [nL p.1, nL p.2])), x5, x6, x7, x8, x9]) ⟨fun x hx => by
      obtain ⟨h, hh, rfl⟩ := List.mem_map.mp hx
      exact ⟨h, by simpa using hh, rfl⟩, [], none, none, none, none, none, by simp, by simp, rfl⟩ ?_ ?_
  · rintro x xs ρ ⟨hxs, T, x5, x6, x7, x8, x9, hl, hT, rfl⟩ Z nx rt
    obtain ⟨h, hh, rfl⟩ := hxs x List.mem_cons_self
    simp [stF_at, asgTg, asRange, small, line]
    refine wp_for (fun ys ρ => ∃ (L : List (List Nat)) (x7 x8 : Option D), L.length + ys.length = 2 ∧ (∀ l ∈ L, l.length = n ∧ ∀ x ∈ l, x < n) ∧ ρ = [some .src, some (.int 2), some (.int mm), some (.int n), some (.lst (T.map fun p => .tup [nL p.1, nL p.2])), some (.int h), some (.lst (L.map nL)), x7, x8, x9]) ⟨[], x7, x8, by simp [rangeD], by simp, rfl⟩ ?_ ?_
    · rintro y ys ρ ⟨L, x7, x8, hl2, hL, rfl⟩ Z nx rt
      simp at hl2
      simp [stF_at, asgTg]
      rw [s_app (a := L.map nL) (by simp) (by simp [line]; omega)]
      simp
      rw [range_nat n (by omega), r_bnd]
      refine wp_bnd (wp_lc (P := fun d => ∃ i : Nat, d = .int i ∧ i < n) fun z hz Z yes => ?_) ?_
      · simp [lcG_at, asgTg, wipeE]
        refine wp_bnd (draw_wp (k + 1) (n := n) rfl h0 (by omega)) ?_
        rintro _ ⟨c, rfl, hc⟩
        refine wp_bnd (choice_wp k (l := [.int h, .int 0, .int c]) (by simp) (by simp)) ?_
        intro d hd
        refine wp_ret (yes d ?_)
        simp at hd
        rcases hd with rfl | rfl | rfl
        · exact ⟨h, rfl, hh⟩
        · exact ⟨0, rfl, h0⟩
        · exact ⟨c, rfl, hc⟩
      · rintro zs ⟨hzl, hzs⟩
        obtain ⟨l, rfl, hll⟩ := nats_of zs hzs
        refine wp_ret (nx _ ⟨L ++ [l], some y, x8, by simp; omega, fun l' hl' => ?_, by simp [nL]⟩)
        rcases List.mem_append.mp hl' with hl' | hl'
        · exact hL l' hl'
        · rw [List.mem_singleton.mp hl']
          exact ⟨by simpa using hzl, hll⟩
    · rintro ρ ⟨L, x7, x8, hl2, hL, rfl⟩
      simp at hl hl2
      match L, hl2 with
      | [l1, l2], _ =>
        have e1 := hL l1 (by simp)
        have e2 := hL l2 (by simp)
        simp
        rw [s_app (a := T.map fun p => .tup [nL p.1, nL p.2]) (by simp) (by simp [line]; omega), e_own (a := [nL l1, nL l2]) (by simp)]
        simp
        refine wp_ret (nx _ ⟨fun x hx => hxs x (List.mem_cons_of_mem _ hx), T ++ [(l1, l2)], some (.int h), some (.lst [nL l1, nL l2]), x7, x8, x9, by simp; omega, fun p hp => ?_, by simp⟩)
        rcases List.mem_append.mp hp with hp | hp
        · exact hT p hp
        · rw [List.mem_singleton.mp hp]
          exact ⟨⟨e1.1, e2.1⟩, e1.2, e2.2⟩
  · rintro ρ ⟨-, T, x5, x6, x7, x8, x9, hl, hT, rfl⟩
    simp at hl
    simp
    rw [e_own (a := T.map fun p => .tup [nL p.1, nL p.2]) (by simp)]
    simp
    rw [range_nat n (by omega), r_bnd]
    refine wp_bnd (wp_sub fun z hz => ?_) ?_
    · simp [lcG_at, asgTg, wipeE]
      refine wp_bnd (coin_wp (k + 1)) ?_
      rintro _ ⟨b, rfl⟩
      cases b
      · simp [bI]; exact wp_ret (.inr rfl)
      · simp [bI]; exact wp_ret (.inl rfl)
    · intro ys hs
      obtain ⟨l, hl', rfl⟩ := List.sublist_map_iff.mp hs
      have hl : T.length = n := by omega
      refine wp_ret ⟨⟨T, l⟩, rfl, ⟨by show 0 < T.length; omega, fun p hp => by show (p.1.length = T.length ∧ p.2.length = T.length) ∧ (∀ x ∈ p.1, x < T.length) ∧ ∀ x ∈ p.2, x < T.length; rw [hl]; exact hT p hp⟩, by show T.length ≤ 3; omega, (List.pairwise_lt_range).sublist hl', fun g hg => ?_⟩
      have := hl'.subset hg
      show g < T.length
      rw [hl]
      simpa using this
end Nm
end
section
set_option Elab.async false
set_option linter.all false
set_option maxRecDepth 100000
set_option maxHeartbeats 1000000
namespace Nm
open Nk
theorem lively_wp (k : Nat) {m : Int} {mm : Nat} (e : m = mm) (h0 : 0 < mm) (h3 : mm ≤ 3) : wp (callK tab (k + 4) 76 [.src, .int 2, .int m]) fun d => ∃ K : Kd, d = K.enc ∧ K.ok := by
  subst e
  rw [show callK tab (k + 4) 76 [.src, .int 2, .int mm] = runB (callK tab (k + 3)) 5 b_76 [.src, .int 2, .int mm] from rfl]
  simp [run_at, b_76]
  rw [show asRange (.int 3) = ret [.int 0, .int 1, .int 2] from rfl, r_bnd]
  refine wp_for (fun xs ρ => xs.length ≤ 3 ∧ ∃ (x3 x4 : Option D), (xs.length < 3 → ∃ K : Kd, x4 = some K.enc ∧ K.ok) ∧ ρ = [some .src, some (.int 2), some (.int mm), x3, x4]) ⟨by simp, none, none, by simp, rfl⟩ ?_ ?_
  · rintro x xs ρ ⟨hx, x3, x4, -, rfl⟩ Z nx rt
    simp at hx
    simp [stF_at, asgTg]
    refine wp_bnd (kind_wp k rfl h0 h3) ?_
    rintro _ ⟨K, rfl, hK⟩
    have i1 : op2 .ix K.enc (.int 1) = some K.T.enc := by simp [Kd.enc, place]
    have i2 : op2 .ix K.enc (.int 2) = some (nL K.good) := by simp [Kd.enc, place]
    have l1 : op1 .len K.T.enc = some (.int K.T.length) := by simp [Tb.enc]
    have l2 : op1 .len (nL K.good) = some (.int K.good.length) := by simp [nL]
    have done : wp (endD (.rt K.enc)) fun d => ∃ K : Kd, d = K.enc ∧ K.ok := wp_ret ⟨K, rfl, hK⟩
    simp [i2, l2]
    by_cases hg : 0 < K.good.length
    · by_cases hh : K.good.length < K.T.length
      · have hh' : (K.good.length : Int) < (K.T.length : Int) := by omega
        simp [hg, i1, l1, hh, hh']
        refine wp_ret (rt _ ?_)
        simpa using done
      · simp [hg, i1, l1, hh]
        exact wp_ret (nx _ ⟨by omega, some x, some K.enc, fun _ => ⟨K, rfl, hK⟩, rfl⟩)
    · have hg0 : K.good.length = 0 := by omega
      simp [hg0]
      exact wp_ret (nx _ ⟨by omega, some x, some K.enc, fun _ => ⟨K, rfl, hK⟩, rfl⟩)
  · rintro ρ ⟨-, x3, x4, h, rfl⟩
    obtain ⟨K, rfl, hK⟩ := h (by simp)
    simp
    exact wp_ret ⟨K, rfl, hK⟩
theorem marks_wp (k : Nat) : wp (callK tab (k + 4) 61 [.src, .int 2]) fun d => ∃ S : St, d = S.enc ∧ S.ok := by
  rw [show callK tab (k + 4) 61 [.src, .int 2] = runB (callK tab (k + 3)) 6 b_61 [.src, .int 2] from rfl]
  simp [run_at, b_61]
  refine wp_bnd (kind_wp k (mm := 3) rfl (by decide) (by decide)) ?_
  rintro _ ⟨K, rfl, hK⟩
  have i1 : op2 .ix K.enc (.int 1) = some K.T.enc := by simp [Kd.enc, place]
  simp [i1, asgTg]
  rw [show asRange (.int 2) = ret [.int 0, .int 1] from rfl, r_bnd]
  refine wp_for (fun ys ρ => ∃ (L : List (List Bool)) (x4 x5 : Option D), L.length + ys.length = 2 ∧ (∀ l ∈ L, l.length = K.T.length) ∧ ρ = [some .src, some (.int 2), some K.T.enc, some (.lst (L.map bL)), x4, x5]) ⟨[], none, none, by simp, by simp, rfl⟩ ?_ ?_
  · rintro y ys ρ ⟨L, x4, x5, hl2, hL, rfl⟩ Z nx rt
    simp at hl2
    simp [stF_at, asgTg]
    rw [s_app (a := L.map bL) (by simp) (by simp [line]; omega)]
    simp [Tb.enc]
    refine wp_bnd (wp_lc (P := fun d => ∃ b, d = bI b) fun z hz Z yes => ?_) ?_
    · simp [lcG_at, asgTg, wipeE]
      refine wp_bnd (coin_wp (k + 2)) ?_
      rintro _ ⟨b, rfl⟩
      exact wp_ret (yes _ ⟨b, rfl⟩)
    · rintro zs ⟨hzl, hzs⟩
      obtain ⟨l, rfl⟩ := bools_of zs hzs
      refine wp_ret (nx _ ⟨L ++ [l], some y, x5, by simp; omega, fun l' hl' => ?_, by simp [bL, Tb.enc]⟩)
      rcases List.mem_append.mp hl' with hl' | hl'
      · exact hL l' hl'
      · rw [List.mem_singleton.mp hl']
        simpa using hzl
  · rintro ρ ⟨L, x4, x5, hl2, hL, rfl⟩
    simp at hl2
    match L, hl2 with
    | [l1, l2], _ =>
      simp
      rw [e_own (a := [bL l1, bL l2]) (by simp)]
      simp
      exact wp_ret ⟨.mark K.T l1 l2, rfl, hK.tv, hK.few, hL l1 (by simp), hL l2 (by simp)⟩
theorem step_wp (k : Nat) : wp (callK tab (k + 5) 62 [.src, .int 2]) fun d => ∃ S : St, d = S.enc ∧ S.ok := by
  rw [show callK tab (k + 5) 62 [.src, .int 2] = runB (callK tab (k + 4)) 8 b_62 [.src, .int 2] from rfl]
  simp [run_at, b_62]
  refine wp_bnd (choice_wp (k + 2) (by simp) (by simp)) ?_
  intro d hd
  simp only [asgTg]
  simp
  refine wp_bnd (coin_wp (k + 3)) ?_
  rintro _ ⟨w, rfl⟩
  simp at hd
  rcases hd with rfl | rfl | rfl | rfl | rfl | rfl | rfl | rfl
  · simp
    exact marks_wp k
  · simp
    refine wp_bnd (coin_wp (k + 3)) ?_
    rintro _ ⟨c, rfl⟩
    obtain ⟨n, hn, h0, h2⟩ : ∃ n : Nat, op2 .add (.int 1) (bI c) = some (.int n) ∧ 0 < n ∧ n ≤ 2 := by
      cases c
      · exact ⟨1, rfl, by decide, by decide⟩
      · exact ⟨2, rfl, by decide, by decide⟩
    simp [hn]
    rw [range_nat n (by omega), r_bnd]
    refine wp_for (fun ys ρ => ∃ (L : Ln) (x6 x7 : Option D), L.length + ys.length = n ∧ (∀ p ∈ L, p.1.2 < n ∧ p.2.2 < n) ∧ ρ = [some .src, some (.int 2), some (.str .about), some (bI w), some (.int n), some (.lst (L.map fun p => .tup [prD p.1, prD p.2])), x6, x7]) ⟨[], none, none, by simp, by simp, rfl⟩ ?_ ?_
    · rintro y ys ρ ⟨L, x6, x7, hl2, hL, rfl⟩ Z nx rt
      simp at hl2
      simp [stF_at, asgTg]
      rw [s_app (a := L.map fun p => .tup [prD p.1, prD p.2]) (by simp) (by simp [line]; omega)]
      simp
      rw [show asRange (.int 2) = ret [.int 0, .int 1] from rfl, r_bnd]
      refine wp_bnd (wp_lc (P := fun d => ∃ p : Bool × Nat, d = prD p ∧ p.2 < n) fun z hz Z yes => ?_) ?_
      · simp [lcG_at, asgTg, wipeE]
        refine wp_bnd (coin_wp (k + 3)) ?_
        rintro _ ⟨b, rfl⟩
        refine wp_bnd (draw_wp (k + 3) (n := n) rfl h0 (by omega)) ?_
        rintro _ ⟨c, rfl, hc⟩
        exact wp_ret (yes _ ⟨(b, c), rfl, hc⟩)
      · rintro zs ⟨hzl, hzs⟩
        match zs, hzl with
        | [z1, z2], _ =>
          obtain ⟨p1, rfl, hp1⟩ := hzs z1 (by simp)
          obtain ⟨p2, rfl, hp2⟩ := hzs z2 (by simp)
          refine wp_ret (nx _ ⟨L ++ [(p1, p2)], some y, x7, by simp; omega, fun l' hl' => ?_, by simp⟩)
          rcases List.mem_append.mp hl' with hl' | hl'
          · exact hL l' hl'
          · rw [List.mem_singleton.mp hl']
            exact ⟨hp1, hp2⟩
    · rintro ρ ⟨L, x6, x7, hl2, hL, rfl⟩
      simp at hl2
      simp
      rw [e_own (a := L.map fun p => .tup [prD p.1, prD p.2]) (by simp)]
      simp
      refine wp_ret ⟨.about L, rfl, ⟨by show 0 < L.length; omega, by show L.length ≤ 2; omega, fun p hp => by show p.1.2 < L.length ∧ p.2.2 < L.length; rw [hl2]; exact hL p hp⟩⟩
  · simp
    exact wp_ret ⟨.drop w, rfl, trivial⟩
  · simp
    exact wp_ret ⟨.open_ w, rfl, trivial⟩
  · simp
    refine wp_bnd (coin_wp (k + 3)) ?_
    rintro _ ⟨v, rfl⟩
    exact wp_ret ⟨.wrap w v, rfl, trivial⟩
  · simp
    exact wp_ret ⟨.double w, rfl, trivial⟩
  · simp
    exact wp_ret ⟨.turn, rfl, trivial⟩
  · simp
    refine wp_bnd (choice_wp (k + 2) (by simp) (by simp)) ?_
    intro d hd
    simp at hd
    rcases hd with rfl | rfl
    · exact wp_ret ⟨.only false w, rfl, trivial⟩
    · exact wp_ret ⟨.only true w, rfl, trivial⟩
end Nm
end
section
set_option Elab.async false
set_option linter.all false
set_option maxRecDepth 100000
set_option maxHeartbeats 1000000
namespace Nm
open Nk
def Wt : Nat → Nat
  | 0 => 0
  | n + 1 => 1 + 3 * (Wt n + 1)
theorem pts_of {R : Pt → Prop} : ∀ (ys : List D), (∀ y ∈ ys, ∃ p, y = Pt.enc p ∧ R p) → ∃ l : List Pt, ys = encs l ∧ ∀ p ∈ l, R p
  | [], _ => ⟨[], rfl, fun i h => by cases h⟩
  | y :: ys, h => by
    obtain ⟨p, rfl, hp⟩ := h y List.mem_cons_self
    obtain ⟨l, rfl, hl⟩ := pts_of ys fun z hz => h z (List.mem_cons_of_mem _ hz)
    exact ⟨p :: l, rfl, fun j hj => by
      rcases List.mem_cons.mp hj with rfl | hj
      · exact hp
      · exact hl j hj⟩
theorem wts_le {W : Nat} : ∀ l : List Pt, (∀ p ∈ l, p.wt ≤ W) → wts l ≤ l.length * W
  | [], _ => by simp [wts]
  | p :: l, h => by
    have h1 := h p List.mem_cons_self
    have h2 := wts_le l fun q hq => h q (List.mem_cons_of_mem _ hq)
    simp only [wts, List.length_cons, Nat.succ_mul]
    omega
def Pr (lv : Nat) (p : Pt) : Prop := Pt.ok lv p ∧ p.wt ≤ Wt lv
theorem rpart_wp : ∀ (lv k : Nat), 2 * lv + 10 ≤ k → wp (callK tab k 66 [.src, .int 2, .int ((lv + 1 : Nat) : Int)]) fun d => ∃ p : Pt, d = p.enc ∧ Pr (lv + 1) p := by
  intro lv
  induction lv with
  | zero =>
    intro k hk
    obtain ⟨j, rfl⟩ : ∃ j, k = j + 6 := ⟨k - 6, by omega⟩
    rw [show callK tab (j + 6) 66 [.src, .int 2, .int ((0 + 1 : Nat) : Int)] = runB (callK tab (j + 5)) 8 b_66 [.src, .int 2, .int ((0 + 1 : Nat) : Int)] from rfl]
    simp [run_at, b_66]
    refine wp_bnd (draw_wp (j + 4) (n := 2) rfl (by decide) (by decide)) ?_
    rintro _ ⟨w, rfl, hw⟩
    have hw' : (w : Int) < 2 := by omega
    simp [asgTg, hw', hw]
    refine wp_bnd (step_wp j) ?_
    rintro _ ⟨S, rfl, hS⟩
    exact wp_ret ⟨.do_ S, rfl, hS, by simp [Pt.wt, Wt]⟩
  | succ lv ih =>
    intro k hk
    obtain ⟨j, rfl⟩ : ∃ j, k = j + 6 := ⟨k - 6, by omega⟩
    have ih := ih (j + 5) (by omega)
    rw [show callK tab (j + 6) 66 [.src, .int 2, .int ((lv + 1 + 1 : Nat) : Int)] = runB (callK tab (j + 5)) 8 b_66 [.src, .int 2, .int ((lv + 1 + 1 : Nat) : Int)] from rfl]
    have h1 : (1 : Int) < (lv : Int) + 1 + 1 := by omega
    simp [run_at, b_66, h1]
    refine wp_bnd (draw_wp (j + 4) (n := 9) rfl (by decide) (by decide)) ?_
    rintro _ ⟨w, rfl, hw⟩
    have hlv : ((lv : Int) + 1 + 1 - 1) = ((lv + 1 : Nat) : Int) := by omega
    by_cases w2 : w < 2
    · have hw' : (w : Int) < 2 := by omega
      simp [asgTg, hw', w2]
      refine wp_bnd (step_wp j) ?_
      rintro _ ⟨S, rfl, hS⟩
      exact wp_ret ⟨.do_ S, rfl, hS, by simp [Pt.wt, Wt]⟩
    have n2 : ¬ (w : Int) < 2 := by omega
    by_cases w3 : w = 2
    · subst w3
      simp [asgTg]
      refine wp_bnd (draw_wp (j + 4) (n := 4) rfl (by decide) (by decide)) ?_
      rintro _ ⟨n, rfl, hn⟩
      rw [range_nat n (by omega), r_bnd]
      refine wp_bnd (wp_lc (P := fun d => ∃ p : Pt, d = p.enc ∧ Pr (lv + 1) p) fun z hz Z yes => ?_) ?_
      · simp [lcG_at, asgTg, wipeE, hlv]
        simp at ih
        refine wp_bnd ih ?_
        rintro _ ⟨p, rfl, hp⟩
        exact wp_ret (yes _ ⟨p, rfl, hp⟩)
      · rintro zs ⟨hzl, hzs⟩
        obtain ⟨l, rfl, hl⟩ := pts_of zs hzs
        have hle : l.length = n := by simpa using hzl
        have hw := wts_le l fun p hp => (hl p hp).2
        refine wp_ret ⟨.row l, rfl, ⟨by omega, fun p hp => (hl p hp).1⟩, ?_⟩
        have : l.length * Wt (lv + 1) ≤ 3 * Wt (lv + 1) := Nat.mul_le_mul_right _ (by omega)
        show 1 + wts l ≤ 1 + 3 * (Wt (lv + 1) + 1)
        omega
    have n3 : ((w : Int) == 2) = false := by rw [beq_eq_false_iff_ne]; omega
    by_cases w4 : w = 3
    · subst w4
      simp [asgTg]
      refine wp_bnd (choice_wp (j + 3) (by simp) (by simp)) ?_
      intro d hd
      obtain ⟨n, rfl, hn⟩ : ∃ n : Nat, d = .int n ∧ n ≤ 3 := by
        simp at hd
        rcases hd with rfl | rfl | rfl | rfl
        · exact ⟨0, rfl, by decide⟩
        · exact ⟨1, rfl, by decide⟩
        · exact ⟨2, rfl, by decide⟩
        · exact ⟨3, rfl, by decide⟩
      show wp (bnd _ _) _
      refine wp_bnd ih ?_
      rintro _ ⟨p, rfl, hp⟩
      refine wp_ret ⟨.times n p, rfl, ⟨by omega, hp.1⟩, ?_⟩
      have : n * (p.wt + 1) ≤ 3 * (Wt (lv + 1) + 1) := Nat.mul_le_mul hn (by have := hp.2; omega)
      show 1 + n * (p.wt + 1) ≤ 1 + 3 * (Wt (lv + 1) + 1)
      omega
    have n4 : ((w : Int) == 3) = false := by rw [beq_eq_false_iff_ne]; omega
    have n5 : ¬ (w < 2) := w2
    simp [asgTg, n2, n3, n4, n5, hlv, setAll]
    simp at ih
    refine wp_bnd ih ?_
    rintro _ ⟨p, rfl, hp⟩
    refine wp_bnd ih ?_
    rintro _ ⟨q, rfl, hq⟩
    have hm : 1 + max p.wt q.wt ≤ Wt (lv + 1 + 1) := by
      have := hp.2
      have := hq.2
      show _ ≤ 1 + 3 * (Wt (lv + 1) + 1)
      omega
    by_cases w6 : w < 6
    · have w6' : (w : Int) < 6 := by omega
      simp [w6, w6']
      refine wp_bnd (lively_wp (j + 1) (mm := 2) rfl (by decide) (by decide)) ?_
      rintro _ ⟨K, rfl, hK⟩
      exact wp_ret ⟨.if_ K p q, rfl, ⟨hK, hp.1, hq.1⟩, hm⟩
    · have w6' : ¬ (w : Int) < 6 := by omega
      simp [w6, w6']
      refine wp_bnd (choice_wp (j + 3) (by simp) (by simp)) ?_
      intro d hd
      simp at hd
      rcases hd with rfl | rfl
      · exact wp_ret ⟨.ch true p q, rfl, ⟨hp.1, hq.1⟩, hm⟩
      · exact wp_ret ⟨.ch false p q, rfl, ⟨hp.1, hq.1⟩, hm⟩
theorem program_wp (k : Nat) (hk : 20 ≤ k) : wp (callK tab (k + 1) 69 [.src, .int 2, .int 3]) fun d => ∃ p : Pt, d = prog p ∧ Pt.ok 4 p ∧ p.cnt ≤ 12 ∧ p.wt ≤ 800 := by
  rw [show callK tab (k + 1) 69 [.src, .int 2, .int 3] = runB (callK tab k) 5 b_69 [.src, .int 2, .int 3] from rfl]
  simp [run_at, b_69]
  rw [show asRange (.int 5) = ret [.int 0, .int 1, .int 2, .int 3, .int 4] from rfl, r_bnd]
  refine wp_for (fun xs ρ => ∃ (x3 x4 : Option D), ρ = [some .src, some (.int 2), some (.int 3), x3, x4]) ⟨none, none, rfl⟩ ?_ ?_
  · rintro x xs ρ ⟨x3, x4, rfl⟩ Z nx rt
    simp [stF_at, asgTg]
    have h := rpart_wp 2 k (by omega)
    simp at h
    refine wp_bnd h ?_
    rintro _ ⟨p, rfl, hp⟩
    have e := lmany_ev 3 k p hp.1 (by omega)
    simp [e]
    by_cases hc : p.cnt < 13
    · have hc' : (p.cnt : Int) < 13 := by omega
      simp [hc, hc']
      refine wp_ret (rt _ ?_)
      simp
      refine wp_ret ⟨p, rfl, Pt.ok_succ _ _ hp.1, by omega, ?_⟩
      have := hp.2
      simp [Wt] at this
      omega
    · have hc' : ¬ (p.cnt : Int) < 13 := by omega
      simp [hc, hc']
      exact wp_ret (nx _ ⟨_, _, rfl⟩)
  · rintro ρ ⟨x3, x4, rfl⟩
    simp
    exact wp_ret ⟨.ch true (.do_ .turn) (.do_ (.drop true)), rfl, ⟨trivial, trivial⟩, by simp [Pt.cnt], by simp [Pt.wt]⟩
/-! ### values near a plan -/
theorem three {l : List D} (h : l.length = 3) : ∃ w u z, l = [w, u, z] := by
  match l, h with
  | [w, u, z], _ => exact ⟨w, u, z, rfl⟩
theorem bent_pick (k n : Nat) {v : D} (hv : nosrc v = true) (hd : dep v ≤ n) : wp (callK tab (k + 2) 50 [.src, .lst [.tup [.str .end_], .tup [.str .ours, .int 0, v], .tup [.str .theirs, v, v], .tup [.str .end_, .int 0], .non, .lst [.str .end_], .tup []]]) fun d => nosrc d = true ∧ dep d ≤ n + 1 := by
  refine wp_mono (choice_wp k (by simp) (by simp)) fun d h => ?_
  simp at h
  rcases h with rfl | rfl | rfl | rfl | rfl | rfl | rfl <;> simp [nosrc, nosrcs, dep, deps, hv] <;> omega
theorem bent_val (k : Nat) : wp (callK tab (k + 2) 50 [.src, .lst [.int 0, .int 1, .bl true, .int 2, .non]]) fun d => nosrc d = true ∧ dep d = 0 := by
  refine wp_mono (choice_wp k (by simp) (by simp)) fun d h => ?_
  simp at h
  rcases h with rfl | rfl | rfl | rfl | rfl <;> exact ⟨rfl, rfl⟩
theorem bent_wp : ∀ (n k : Nat) (v : D), nosrc v = true → dep v ≤ n → n + 4 ≤ k → wp (callK tab k 78 [.src, v]) fun d => nosrc d = true ∧ dep d ≤ n + 1 := by
  intro n
  induction n with
  | zero =>
    intro k v hv hd hk
    obtain ⟨j, rfl⟩ : ∃ j, k = j + 3 := ⟨k - 3, by omega⟩
    rw [show callK tab (j + 3) 78 [.src, v] = runB (callK tab (j + 2)) 4 b_78 [.src, v] from rfl]
    have bp := bent_pick j 0 hv hd
    obtain ⟨bt, it, ht⟩ := istup_any v hv
    have : bt = false := by
      cases bt with
      | false => rfl
      | true =>
        obtain ⟨l, rfl⟩ := ht.mp rfl
        simp [dep] at hd
    subst this
    simp [run_at, b_78, it, asgTg]
    rw [p_add_l (by show _ ≤ 100000; simp), ofO_some, r_bnd]
    exact bp
  | succ n ih =>
    intro k v hv hd hk
    obtain ⟨j, rfl⟩ : ∃ j, k = j + 3 := ⟨k - 3, by omega⟩
    rw [show callK tab (j + 3) 78 [.src, v] = runB (callK tab (j + 2)) 4 b_78 [.src, v] from rfl]
    have bp := bent_pick j (n + 1) hv hd
    obtain ⟨bt, it, ht⟩ := istup_any v hv
    cases bt with
    | false =>
      simp [run_at, b_78, it, asgTg]
      rw [p_add_l (by show _ ≤ 100000; simp), ofO_some, r_bnd]
      exact bp
    | true =>
      obtain ⟨l, rfl⟩ := ht.mp rfl
      by_cases h3 : l.length = 3
      case neg =>
        have h3' : ((l.length : Int) == 3) = false := by rw [beq_eq_false_iff_ne]; omega
        simp [run_at, b_78, h3', it, asgTg, eqO_int]
        rw [p_add_l (by show _ ≤ 100000; simp), ofO_some, r_bnd]
        exact bp
      case pos =>
        obtain ⟨w, u, z, rfl⟩ := three h3
        simp [nosrc, nosrcs] at hv
        simp [dep, deps] at hd
        simp [run_at, b_78]
        refine wp_bnd (draw_wp (j + 1) (n := 4) rfl (by decide) (by decide)) ?_
        rintro _ ⟨i, rfl, hi⟩
        by_cases h0 : i = 0
        · subst h0
          simp [asgTg]
          rw [p_add_l (by show _ ≤ 100000; simp), ofO_some, r_bnd]
          exact bp
        · have h0' : ((i : Int) == 0) = false := by rw [beq_eq_false_iff_ne]; omega
          simp [h0']
          refine wp_bnd (coin_wp (j + 1)) ?_
          rintro _ ⟨b, rfl⟩
          cases b with
          | false =>
            obtain ⟨bu, iu, hu⟩ := istup_any u hv.2.1
            have a1 : op2 .add (.int 1) (bI false) = some (.int 1) := rfl
            simp [a1, asgTg, place, iu]
            cases bu with
            | true =>
              simp [cut, clip]
              refine wp_bnd (ih (j + 2) u hv.2.1 (by omega) (by omega)) ?_
              rintro d ⟨d1, d2⟩
              show wp (bnd (ofO (op2 .add _ _)) _) _
              rw [p_add_t (by show _ ≤ 100000; simp), ofO_some, r_bnd]
              try rw [p_add_t (by show _ ≤ 100000; simp)]
              exact wp_ret ⟨by simp [nosrc, nosrcs, hv, d1], by simp [dep, deps]; omega⟩
            | false =>
              simp [cut, clip]
              refine wp_bnd (bent_val j) ?_
              rintro d ⟨d1, d2⟩
              show wp (bnd (ofO (op2 .add _ _)) _) _
              rw [p_add_t (by show _ ≤ 100000; simp), ofO_some, r_bnd]
              try rw [p_add_t (by show _ ≤ 100000; simp)]
              exact wp_ret ⟨by simp [nosrc, nosrcs, hv, d1], by simp [dep, deps]; omega⟩
          | true =>
            obtain ⟨bu, iu, hu⟩ := istup_any z hv.2.2
            have a1 : op2 .add (.int 1) (bI true) = some (.int 2) := rfl
            simp [a1, asgTg, place, iu]
            cases bu with
            | true =>
              simp [cut, clip]
              refine wp_bnd (ih (j + 2) z hv.2.2 (by omega) (by omega)) ?_
              rintro d ⟨d1, d2⟩
              show wp (bnd (ofO (op2 .add _ _)) _) _
              rw [p_add_t (by show _ ≤ 100000; simp), ofO_some, r_bnd]
              try rw [p_add_t (by show _ ≤ 100000; simp)]
              exact wp_ret ⟨by simp [nosrc, nosrcs, hv, d1], by simp [dep, deps]; omega⟩
            | false =>
              simp [cut, clip]
              refine wp_bnd (bent_val j) ?_
              rintro d ⟨d1, d2⟩
              show wp (bnd (ofO (op2 .add _ _)) _) _
              rw [p_add_t (by show _ ≤ 100000; simp), ofO_some, r_bnd]
              try rw [p_add_t (by show _ ≤ 100000; simp)]
              exact wp_ret ⟨by simp [nosrc, nosrcs, hv, d1], by simp [dep, deps]; omega⟩
end Nm
end
section
set_option Elab.async false
set_option linter.all false
set_option maxRecDepth 100000
set_option maxHeartbeats 1000000
namespace Nm
open Nk
@[simp] theorem ansM_ret (d : D) : ansM (ret d) = ret (.tup [.str .told, d]) := nd rfl
mutual
theorem eqv_refl : ∀ d : D, nosrc d = true → eqv d d = true
  | .non, _ => rfl
  | .bl b, _ => by simp [eqv]
  | .int i, _ => by simp [eqv]
  | .str t, _ => by simp [eqv]
  | .tup l, h => by rw [eqv]; exact eqvs_refl l (by simpa [nosrc] using h)
  | .lst l, h => by rw [eqv]; exact eqvs_refl l (by simpa [nosrc] using h)
  | .src, h => by cases h
theorem eqvs_refl : ∀ l : List D, nosrcs l = true → eqvs l l = true
  | [], _ => rfl
  | x :: l, h => by
    simp only [nosrcs, Bool.and_eq_true] at h
    rw [eqvs, eqv_refl x h.1, eqvs_refl l h.2]; rfl
end
theorem eqO_refl {d : D} (h : nosrc d = true) (hd : dep d ≤ 64) : eqO d d = some true := by
  unfold eqO
  rw [if_pos (by simp [h]; omega), eqv_refl d h]
theorem bIs_flat (l : List Bool) : nosrcs (l.map bI) = true ∧ deps (l.map bI) = 0 := by
  induction l with
  | nil => exact ⟨rfl, rfl⟩
  | cons b l ih => simp [nosrcs, nosrc, deps, ih, bI, dep]
theorem wayD_flat (w : Option (List Bool)) : nosrc (wayD w) = true ∧ dep (wayD w) ≤ 1 := by
  cases w with
  | none => exact ⟨rfl, by simp [wayD, dep]⟩
  | some l => simp [wayD, nosrc, dep, bIs_flat l]
theorem leaves_rs : ∀ (t : Tr) (ps : List Bool), t.all Rs → ∀ x ∈ leaves t ps, Rs x.2
  | .fin r, ps, h, x, hx => by rw [List.mem_singleton.mp hx]; exact h
  | .nod _ a b, ps, h, x, hx => by
    rcases List.mem_append.mp hx with hx | hx
    · exact leaves_rs a _ h.1 x hx
    · exact leaves_rs b _ h.2 x hx
theorem leaves_ne : ∀ (t : Tr) (ps : List Bool), leaves t ps ≠ []
  | .fin r, ps => by simp [leaves]
  | .nod _ a b, ps => by
    have := leaves_ne a (ps ++ [false])
    simp [leaves, this]
theorem lc_leaves {g : D → M (Option D)} (F : List Bool × Rw → Option D) : ∀ (L : List (List Bool × Rw)), (∀ x ∈ L, g (lfD x) = ret (F x)) → lcLoop g (L.map lfD) = ret (L.filterMap F)
  | [], _ => rfl
  | x :: L, h => by
    rw [List.map_cons, lcLoop, h x List.mem_cons_self, r_bnd, lc_leaves F L fun y hy => h y (List.mem_cons_of_mem _ hy), r_bnd, List.filterMap_cons]
    cases F x <;> rfl
theorem sizes_int (L : List (List Bool × Rw)) : intsD (L.filterMap fun x => some (.int x.2.sz)) = some (L.map fun x => (x.2.sz : Int)) := by
  induction L with
  | nil => rfl
  | cons x L ih =>
    rw [List.filterMap_cons]
    show intsD (_ :: _) = _
    rw [intsD, ih]; rfl
theorem won_map (K : Kd) (L : List (List Bool × Rw)) : L.filterMap (fun x => if K.has x.2 then some (.tup (x.1.map bI)) else none) = (wonL K L).map fun ps => D.tup (ps.map bI) := by
  induction L with
  | nil => rfl
  | cons x L ih =>
    simp only [wonL, List.filterMap_cons] at ih ⊢
    cases K.has x.2 <;> simp [ih]
theorem ways_nosrc (L : List (List Bool)) : nosrcs (L.map fun ps => D.tup (ps.map bI)) = true := by
  induction L with
  | nil => rfl
  | cons x L ih => simp [nosrcs, ih, nosrc, bIs_flat x]
@[simp] theorem eqO_bl (a b : Bool) : eqO (.bl a) (.bl b) = some (a == b) := by cases a <;> cases b <;> rfl
theorem truly_ev (k : Nat) (a b : Bool) : callK tab (k + 1) 52 [.bl a, .bl b] = ret (.bl (a == b)) := by
  rw [show callK tab (k + 1) 52 [.bl a, .bl b] = runB (callK tab k) 2 b_52 [.bl a, .bl b] from rfl]
  have : eqO (.bl a) (.bl b) = some (a == b) := by cases a <;> cases b <;> rfl
  simp [run_at, b_52, this]
variable {p : Pt} {r : Rw} {K : Kd}
theorem right_wp (g : Good p r K) (k : Nat) (hk : 164 ≤ k) : wp (callK tab (k + 3) 79 [.src, prog p, .tup r.its, K.enc]) fun d => d = .bl true := by
  rw [show callK tab (k + 3) 79 [.src, prog p, .tup r.its, K.enc] = runB (callK tab k) 12 b_79 [.src, prog p, .tup r.its, K.enc] from rfl]
  have i1 : op2 .ix (prog p) (.int 1) = some p.enc := by simp [prog, place]
  have pl : Pl [p] := fun x hx => by rw [List.mem_singleton.mp hx]; exact Pt.ok_succ _ _ g.ok
  have hw : wts [p] ≤ 900 := by simp [wts]; have := g.wt; omega
  have e72 := ends_ev 7 k [p] r [] rfl (by omega) pl hw g.rs
  simp [encs] at e72
  cases ht : treeL 7 [p] r with
  | none =>
    rw [ht] at e72
    simp [endsD] at e72
    simp [run_at, b_79, i1, e72, setAll]
    exact wp_ret rfl
  | some t =>
    rw [ht] at e72
    simp only [endsD] at e72
    obtain ⟨hrs, hht⟩ := treeL_rs 7 [p] r t ht g.rs
    have lrs := leaves_rs t [] hrs
    have lne := leaves_ne t []
    obtain ⟨j, rfl⟩ : ∃ j, k = j + 2 := ⟨k - 2, by omega⟩
    have e45 : callK tab (j + 2) 45 [prog p, .tup r.its, K.enc] = _ := picksto_ev g ht (j + 1) (by omega)
    have e46 : callK tab (j + 2) 46 [prog p, .tup r.its, K.enc] = _ := plan_ev g ht (j + 1) (by omega)
    have e47 : ∀ v : D, nosrc v = true → callK tab (j + 2) 47 [prog p, .tup r.its, K.enc, v] = _ := fun v hv => ispl_ev g ht (j + 1) (by omega) v hv
    have e73 := wins_ev K g.kd 7 (j + 2) [p] r t ht (by omega) pl hw g.rs
    have e77 := fun v hv => isplan_ev K g.kd 7 (j + 2) v hv [p] r t ht (by omega) pl hw g.rs
    simp [encs] at e73 e77
    generalize hL : leaves t [] = L at *
    obtain ⟨mx, hM⟩ : ∃ mx, op1 .max (.lst (L.filterMap fun x => some (.int x.2.sz))) = some (.int mx) := by
      cases L with
      | nil => exact (lne rfl).elim
      | cons x L => exact ⟨_, o_max (by rw [sizes_int]; rfl)⟩
    simp [run_at, b_79, i1, e72, setAll]
    rw [lc_leaves (fun x => some (.int x.2.sz)) L fun x hx => by
      have := size_ev (j + 2) x.2 (by have := (lrs x hx).2; omega)
      simp [lcG_at, asgTg, setAll, wipeE, lfD, this], r_bnd, hM]
    simp
    by_cases h200 : 200 < mx
    · simp [h200]
      exact wp_ret rfl
    · simp [h200]
      rw [lc_leaves (fun x => if K.has x.2 then some (.tup (x.1.map bI)) else none) L fun x hx => by
        have := lisof_ev g.kd.tv (j + 1) x.2 (by have := (lrs x hx).2; omega)
        simp [lcG_at, asgTg, setAll, wipeE, lfD, this]
        cases K.has x.2 <;> simp, r_bnd, won_map]
      have hrefl : eqO (.tup [.str .told, wayD (firstP K t)]) (.tup [.str .told, wayD (firstP K t)]) = some true := by
        have := wayD_flat (firstP K t)
        exact eqO_refl (by simp [nosrc, nosrcs, this]) (by simp [dep, deps]; omega)
      obtain ⟨b, hb1, hb2⟩ : ∃ b, eqO (.lst ((wonL K L).map fun ps => D.tup (ps.map bI))) (.lst []) = some b ∧ (cond (!b) (ofO (op2 .ix (.lst ((wonL K L).map fun ps => D.tup (ps.map bI))) (.int 0))) (ret .non) : M D) = ret (wayD (firstP K t)) := by
        refine ⟨_, eqO_lst_nil (ways_nosrc _), ?_⟩
        have hf := won_first K t []
        rw [hL] at hf
        cases hw : wonL K L with
        | nil =>
          rw [hw] at hf
          cases hfp : firstP K t with
          | none => simp [wayD]
          | some l => rw [hfp] at hf; simp at hf
        | cons a l =>
          rw [hw] at hf
          cases hfp : firstP K t with
          | none => rw [hfp] at hf; simp at hf
          | some l' =>
            rw [hfp] at hf
            simp at hf
            have : (0 : Int) < (l.length : Int) + 1 := by omega
            simp [wayD, hf, place, this]
      generalize hWW : D.lst ((wonL K L).map fun ps => D.tup (ps.map bI)) = WW at *
      have hb2' : (bif !b then ofO (op2 .ix WW (.int 0)) else ret .non : M D) = ret (wayD (firstP K t)) := hb2
      simp only [asgTg]
      simp [e45, hb1, hb2', hrefl, e46, e73, wins_plan]
      have hloop : ∀ (v told : D), nosrc v = true → dep v ≤ 10 → ∀ x6 x7 x11 : Option D, wp (bnd (forLoop (stF (callK tab (j + 2)) (.nm 11) (.cons (.ite (.not (.call 52 (.cons (.call 47 (.cons (.var 1) (.cons (.var 2) (.cons (.var 3) (.cons (.var 10) .nil))))) (.cons (.call 77 (.cons (.var 4) (.cons (.var 2) (.cons (.var 3) (.cons (.var 10) .nil))))) .nil)))) (.cons (.rtn (.cst (.bl false))) .nil) .nil) (.cons (.asg 10 (.call 78 (.cons (.var 0) (.cons (.var 10) .nil)))) .nil))) [.int 0, .int 1, .int 2, .int 3, .int 4] [some .src, some (prog p), some (.tup r.its), some K.enc, some (.tup [p.enc]), some (.lst (L.map lfD)), x6, x7, some WW, some told, some v, x11]) fun fl => bnd (thenS (fun ρ => ret (.rt (.bl true))) fl) endD) fun d => d = .bl true := fun v told hv hd x6 x7 x11 => by
        refine wp_for (fun xs ρ => ∃ (v : D) (x11 : Option D), nosrc v = true ∧ dep v + xs.length ≤ 15 ∧ ρ = [some .src, some (prog p), some (.tup r.its), some K.enc, some (.tup [p.enc]), some (.lst (L.map lfD)), x6, x7, some WW, some told, some v, x11]) ⟨v, x11, hv, by simp; omega, rfl⟩ ?_ ?_
        · rintro x xs ρ ⟨v, x11, hv, hd, rfl⟩ Z nx rt
          simp at hd
          simp [stF_at, asgTg, e47 v hv, e77 v hv, truly_ev]
          refine wp_bnd (bent_wp (dep v) (j + 2) v hv (Nat.le_refl _) (by omega)) ?_
          rintro d ⟨d1, d2⟩
          exact wp_ret (nx _ ⟨d, some x, d1, by omega, rfl⟩)
        · rintro ρ ⟨v, x11, hv, hd, rfl⟩
          simp
          exact wp_ret rfl
      obtain ⟨f1, f2, f3, f4⟩ := opD_facts K t (by omega)
      cases hpl : planOf K t with
      | none =>
        have := hloop (.tup [.str .end_]) .non rfl (by simp [dep, deps]) none none none
        simp [opD, asgTg, show asRange (.int 5) = ret [.int 0, .int 1, .int 2, .int 3, .int 4] from rfl]
        simpa using this
      | some d =>
        obtain ⟨⟨l, rfl⟩, d2, d3⟩ := planOf_tup K t d hpl
        have := hloop (.tup l) (.tup l) d2 (by omega) none none none
        have pg := plan_good K t (.tup l) hpl
        simp [opD, asgTg, e77 (.tup l) d2, pg, show asRange (.int 5) = ret [.int 0, .int 1, .int 2, .int 3, .int 4] from rfl]
        simpa using this
end Nm
end
section
set_option Elab.async false
set_option linter.all false
set_option maxRecDepth 100000
set_option maxHeartbeats 1000000
namespace Nm
open Nk
theorem ss_split (cal : Nat → List D → M D) : ∀ (n : Nat) (s : Ss) (ρ : Env), evSs cal s ρ = bnd (evSs cal (takeS n s) ρ) (thenS fun ρ => evSs cal (dropS n s) ρ)
  | 0, s, ρ => by simp [takeS, dropS]
  | n + 1, .nil, ρ => by simp [takeS, dropS]
  | n + 1, .cons a s, ρ => by
    simp only [takeS, dropS, ss_cons, b_assoc]
    congr; funext fl
    cases fl with
    | nx ρ => simp only [thenS_nx]; exact ss_split cal n s ρ
    | rt d => simp
def headS : Ss → S
  | .cons s _ => s
  | .nil => .new 0
def uP : Pt := .ch true (.do_ (.drop true)) (.do_ (.wrap true false))
def vP : Pt := .ch false (.do_ (.drop true)) (.do_ (.wrap true false))
def kE : Kd := ⟨[([1, 1], [1, 1]), ([0, 0], [0, 0])], [0]⟩
def kH : Kd := ⟨[([0, 1], [1, 1]), ([1, 1], [1, 1])], [1]⟩
def kN : Kd := ⟨[([0, 1], [1, 1]), ([1, 1], [1, 1])], [0]⟩
def smp : Rw := .cons false (.cons true .nil .nil) (.cons true .nil .nil)
theorem kE_ok : kE.ok := ⟨⟨by decide, by decide⟩, by decide, by decide, by decide⟩
theorem kH_ok : kH.ok := ⟨⟨by decide, by decide⟩, by decide, by decide, by decide⟩
theorem kN_ok : kN.ok := ⟨⟨by decide, by decide⟩, by decide, by decide, by decide⟩
theorem good_u {K : Kd} (h : K.ok) : Good (.times 3 uP) smp K := ⟨⟨by decide, trivial, trivial⟩, by simp [Pt.cnt, uP], by simp [Pt.wt, uP], by decide, by decide, h⟩
theorem good_v {K : Kd} (h : K.ok) : Good (.times 3 vP) smp K := ⟨⟨by decide, trivial, trivial⟩, by simp [Pt.cnt, vP], by simp [Pt.wt, vP], by decide, by decide, h⟩
theorem other_h : callK tab 170 16 [kH.enc] = ret kN.enc := by
  funext st
  show _ = R.ok kN.enc st
  kernel_rfl
def yP : Pt := .row [.do_ (.drop true), .if_ kH (.do_ .turn) (.row [])]
def kO : Kd := ⟨[([0], [0])], [0]⟩
def kZ : Kd := ⟨[([0], [0])], []⟩
def kF : Kd := ⟨[([1, 1, 2], [1, 2, 2]), ([1, 1, 2], [1, 2, 2]), ([2, 2, 2], [2, 2, 2])], [0, 1]⟩
theorem envA_eq (p t : Option D) : envA p t = [none, some .src, p, t, some (prog uP), some (prog vP), some (prog yP), some kO.enc, some kZ.enc, some kE.enc, some kH.enc, some kF.enc, some (.tup smp.its), none, none, none, none] := by kernel_rfl
theorem six_wp (p t : Option D) : wp (evS (callK tab 170) (headS (dropS 10 closed80)) (envA p t)) fun fl => ∃ x y, fl = .nx (((envA p t).set 13 x).set 14 y) := by
  rw [envA_eq]
  have iu : op2 .ix (prog uP) (.int 1) = some uP.enc := by simp [prog, place]
  have iv : op2 .ix (prog vP) (.int 1) = some vP.enc := by simp [prog, place]
  have fu : ∀ {K : Kd}, K.ok → wp (callK tab 170 79 [.src, .tup [.int 2, .tup [.str .times, .int 3, uP.enc]], .tup smp.its, K.enc]) fun d => d = .bl true := fun h => right_wp (good_u h) 167 (by decide)
  have fv : ∀ {K : Kd}, K.ok → wp (callK tab 170 79 [.src, .tup [.int 2, .tup [.str .times, .int 3, vP.enc]], .tup smp.its, K.enc]) fun d => d = .bl true := fun h => right_wp (good_v h) 167 (by decide)
  have go : headS (dropS 10 closed80) = .for_ (.nm 13) (.seq (.tup (.cons (.var 4) (.cons (.var 5) .nil)))) (.cons (.for_ (.nm 14) (.seq (.tup (.cons (.var 9) (.cons (.var 10) (.cons (.call 16 (.cons (.var 10) .nil)) .nil))))) (.cons (.ite (.not (.call 79 (.cons (.var 1) (.cons (.tup (.cons (.cst (.int 2)) (.cons (.tup (.cons (.cst (.str .times)) (.cons (.cst (.int 3)) (.cons (.o2 .ix (.var 13) (.cst (.int 1))) .nil)))) .nil))) (.cons (.var 12) (.cons (.var 14) .nil)))))) (.cons (.rtn (.cst (.bl false))) .nil) .nil) .nil)) .nil) := rfl
  rw [go]
  simp only [s_for, it_seq, e_tup, es_cons, es_nil, e_var]
  simp [forLoop, stF_at, asgTg, other_h, iu, iv]
  refine wp_bnd (fu kE_ok) ?_
  rintro _ rfl
  simp [iu, iv, other_h]
  refine wp_bnd (fu kH_ok) ?_
  rintro _ rfl
  simp [iu, iv, other_h]
  refine wp_bnd (fu kN_ok) ?_
  rintro _ rfl
  simp [iu, iv, other_h]
  refine wp_bnd (fv kE_ok) ?_
  rintro _ rfl
  simp [iu, iv, other_h]
  refine wp_bnd (fv kH_ok) ?_
  rintro _ rfl
  simp [iu, iv, other_h]
  refine wp_bnd (fv kN_ok) ?_
  rintro _ rfl
  simp
  exact wp_ret ⟨_, _, rfl⟩
theorem wp_of {α : Type} {m : M α} {a : α} {Q : α → Prop} (h : ∀ st, m st = .ok a st) (q : Q a) : wp m Q := fun st v => ⟨a, st, h st, v, q⟩
theorem wp_then {cal : Nat → List D → M D} {s : Ss} {ρ ρ' : Env} {f : Env → M Fl} {Q : Fl → Prop} (h : wp (evSs cal s ρ) fun fl => fl = .nx ρ') (k : wp (f ρ') Q) : wp (bnd (evSs cal s ρ) (thenS f)) Q := wp_bnd h fun a e => by subst e; exact k
theorem hA (p t : Option D) : wp (evSs (callK tab 170) closedA (envS p t)) fun fl => fl = .nx (envA p t) := wp_of (closedA_ok p t) rfl
theorem hC (p t x y : Option D) : wp (evSs (callK tab 170) closedC (((envA p t).set 13 x).set 14 y)) fun fl => fl = .rt (.bl true) := wp_of (closedC_ok p t x y) rfl
theorem cl_split : dropS 10 closed80 = .cons (headS (dropS 10 closed80)) closedC := rfl
theorem six_then (p t : Option D) : wp (evSs (callK tab 170) (.cons (headS (dropS 10 closed80)) closedC) (envA p t)) fun fl => fl = .rt (.bl true) := by
  rw [ss_cons]
  refine wp_bnd (six_wp p t) ?_
  intro fl h
  obtain ⟨x, y, e⟩ := h
  rw [e, thenS_nx]
  exact hC p t x y
theorem closed_wp (p t : Option D) : wp (evSs (callK tab 170) closed80 (envS p t)) fun fl => fl = .rt (.bl true) := by
  have e := ss_split (callK tab 170) 10 closed80 (envS p t)
  rw [e]
  refine wp_then (hA p t) ?_
  have h := six_then p t
  rw [← cl_split] at h
  exact h
theorem tail_gen (cal : Nat → List D → M D) (h69 : wp (cal 69 [.src, .int 2, .int 3]) fun d => ∃ p : Pt, d = prog p ∧ Pt.ok 4 p ∧ p.cnt ≤ 12 ∧ p.wt ≤ 800) (h56 : wp (cal 56 [.src, .int 2, .int 3]) fun d => ∃ q : Rw, d = .tup q.its ∧ q.sz ≤ 3) (h76 : wp (cal 76 [.src, .int 2, .int 3]) fun d => ∃ K : Kd, d = K.enc ∧ K.ok) (h79 : ∀ (p : Pt) (q : Rw) (K : Kd), Good p q K → wp (cal 79 [.src, prog p, .tup q.its, K.enc]) fun d => d = .bl true) (hcl : ∀ p t, wp (evSs cal closed80 (envS p t)) fun fl => fl = .rt (.bl true)) : wp (evSs cal NkH.tail80 NkH.env80) fun fl => fl = .rt (.bl true) := by
  have e : NkH.tail80 = .cons (headS (dropS 1 b_80)) (.cons (headS (dropS 2 b_80)) closed80) := rfl
  have e1 : headS (dropS 1 b_80) = .asg 2 (.call 69 (.cons (.var 1) (.cons (.cst (.int 2)) (.cons (.cst (.int 3)) .nil)))) := rfl
  have e2 : headS (dropS 2 b_80) = .for_ (.nm 3) (.range (.cst (.int 3))) (.cons (.ite (.not (.call 79 (.cons (.var 1) (.cons (.var 2) (.cons (.call 56 (.cons (.var 1) (.cons (.cst (.int 2)) (.cons (.cst (.int 3)) .nil)))) (.cons (.call 76 (.cons (.var 1) (.cons (.cst (.int 2)) (.cons (.cst (.int 3)) .nil)))) .nil)))))) (.cons (.rtn (.cst (.bl false))) .nil) .nil) .nil) := rfl
  rw [e, e1, e2, show NkH.env80 = [none, some .src, none, none, none, none, none, none, none, none, none, none, none, none, none, none, none] from rfl]
  rw [ss_cons, s_asg]
  simp
  refine wp_bnd h69 ?_
  rintro _ ⟨p, rfl, hp⟩
  simp [asgTg]
  rw [show asRange (.int 3) = ret [.int 0, .int 1, .int 2] from rfl, r_bnd]
  refine wp_for (fun xs ρ => ∃ t : Option D, ρ = envS (some (prog p)) t) ⟨none, rfl⟩ ?_ ?_
  · rintro x xs ρ ⟨t, rfl⟩ Z nx rt
    rw [show envS (some (prog p)) t = [none, some .src, some (prog p), t, none, none, none, none, none, none, none, none, none, none, none, none, none] from rfl]
    simp [stF_at, asgTg]
    refine wp_bnd h56 ?_
    rintro _ ⟨q, rfl, hq⟩
    refine wp_bnd h76 ?_
    rintro _ ⟨K, rfl, hK⟩
    have g : Good p q K := ⟨hp.1, hp.2.1, hp.2.2, by omega, by have := dp_sz q; omega, hK⟩
    refine wp_bnd (h79 p q K g) ?_
    rintro _ rfl
    simp
    exact wp_ret (nx _ ⟨some x, rfl⟩)
  · rintro ρ ⟨t, rfl⟩
    exact hcl _ t
theorem tail_wp : wp (evSs (callK tab 170) NkH.tail80 NkH.env80) fun fl => fl = .rt (.bl true) := tail_gen _ (program_wp 169 (by decide)) (nesting_wp 169 (by decide)) (lively_wp 166 (mm := 3) rfl (by decide) (by decide)) (fun p q K g => right_wp g 167 (by decide)) closed_wp
theorem math : NkH.MathTodo 170 := fun cc n h1 h2 => by
  obtain ⟨a, st', e, h⟩ := tail_wp ⟨cc, n⟩ ⟨h1, h2⟩
  have h2 : a = .rt (.bl true) := h.2
  rw [h2] at e
  exact ⟨st', e⟩
end Nm
end
set_option Elab.async false
set_option maxRecDepth 100000
theorem PySem.Challenge.cw_nestkinds_k48_whole_picks_and_plans_holds : PySem.Challenge.rw_nestkinds_k48_whole_picks_and_plans.Holds :=
  holds_if NkH.ans_todo (NkH.prim_if NkH.lot_todo) Nm.math
