import PyProof.Rows.All
import Wide.All
import OpenK.AllK
import Wide.FinOn
import KE.KEqDict
import KE.KDictLaws
import KE.KItem
import PySem.Challenge.RW_uf050021_01
set_option Elab.async false
set_option linter.unusedVariables false
set_option linter.unusedSectionVars false
set_option linter.unusedSimpArgs false
set_option linter.deprecated false
set_option genSizeOf false
set_option genInjectivity false
-- part MiniA
namespace Mine
open PySem (Str Addr PyData)

inductive Val where
  | none
  | bool (b : Bool)
  | int (i : Int)
  | str (s : Str)
  | ref (a : Addr)

inductive MObj where
  | list (vs : List Val)
  | sdict (es : List (Str × Val))
  | inst (cls : Str) (fs : List (Str × Val))
  /-- the law's script: read alone -/
  | arr (ns : List Int)

abbrev Mem := Addr → Option MObj
def upd (μ : Mem) (a : Addr) (o : MObj) : Mem := fun b => if b = a then some o else μ b
abbrev Env := List (Option Val)

inductive BOp
  | add | sub | mul | fdiv | mod
  deriving DecidableEq
inductive COp | eq | ne | lt | le | gt | ge | is | isnot | isin | notin
  deriving DecidableEq
inductive Ty
  | int | bool | str | list
  deriving DecidableEq
inductive BI
  | len | max | min | list
  | dict
  deriving DecidableEq
inductive LM
  | append
  deriving DecidableEq
def LM.isL : LM → Bool
  | _ => true
inductive ItK
  | val | range
  deriving DecidableEq

inductive ME where
  | lit (v : Val)
  | var (i : Nat)
  | bin (op : BOp) (a b : ME)
  | neg (a : ME)
  | not (a : ME)
  | cmp (op : COp) (a b : ME)
  | bool (isAnd : Bool) (es : List ME)
  | idx (a i : ME)
  | slice (a lo hi : ME)
  | call (f : Str) (args : List ME)
  | meth (o : ME) (m : Str) (k : LM) (args : List ME)
  | bi (b : BI) (args : List ME)
  | isinst (a : ME) (t : Ty)
  | list (es : List ME)
  | dict (tk : Bool) (kvs : List ME)

mutual
inductive MS where
  | expr (e : ME)
  | asg (x : Nat) (e : ME)
  | asgIdx (o i e : ME)
  | ite (t : ME) (a b : List MS)
  | while (t : ME) (b : List MS)
  | for (xs : List Nat) (k : ItK) (args : List ME) (b : List MS)
  | ret (e : ME)
  | pass
end

structure FD where
  nparams : Nat
  nvars : Nat
  body : List MS

inductive Callee where
  | fn (f : Str)
  deriving DecidableEq

inductive Flow where
  | next
  | cont
  | brk
  | ret (v : Val)

/-! deep reading -/
mutual
inductive Rd (μ : Mem) : Val → PyData → Prop
  | none : Rd μ .none .none
  | bool (b) : Rd μ (.bool b) (.bool b)
  | int (i) : Rd μ (.int i) (.int i)
  | str (s) : Rd μ (.str s) (.str s)
  | list {a vs ds} : μ a = some (.list vs) → RdAll μ vs ds → Rd μ (.ref a) (.list ds)
inductive RdAll (μ : Mem) : List Val → List PyData → Prop
  | nil : RdAll μ [] []
  | cons {v vs d ds} : Rd μ v d → RdAll μ vs ds → RdAll μ (v :: vs) (d :: ds)
end

def szl : Nat := 16777216
def small (i : Int) : Prop := -9000000000000000000 ≤ i ∧ i ≤ 9000000000000000000
def smallD (i : Int) : Prop := -1000000000 ≤ i ∧ i ≤ 1000000000

def truth : Val → Option Bool
  | .bool b => some b
  | _ => none

abbrev VQ := Val → Mem → Prop

def wpBin (op : BOp) (va vb : Val) (μ : Mem) (Q : VQ) : Prop := match op, va, vb with
  | .add, .int a, .int b => Q (.int (a + b)) μ
  | .sub, .int a, .int b => Q (.int (a - b)) μ
  | .mul, .int a, .int b => (small a ∨ small b) ∧ Q (.int (a * b)) μ
  | .fdiv, .int a, .int b => (b ≠ 0 ∧ smallD b) ∧ Q (.int (a.fdiv b)) μ
  | .mod, .int a, .int b => b ≠ 0 ∧ Q (.int (a.fmod b)) μ
  | .add, .str a, .str b => a.length + b.length ≤ szl ∧ Q (.str (a ++ b)) μ
  | _, _, _ => False

def flatV : Val → Bool
  | .none => true
  | .int _ => true
  | .str _ => true
  | _ => false

def wpEq (va vb : Val) (μ : Mem) (Q : Bool → Prop) : Prop := match va, vb with
  | .int a, .int b => Q (a == b)
  | .str a, .str b => Q (a == b)
  | .none, .none => Q true
  | .none, .int _ => Q false
  | .none, .str _ => Q false
  | .int _, .none => Q false
  | .str _, .none => Q false
  | .bool a, .bool b => Q (a == b)
  | .ref a, .ref b => (∃ es, μ a = some (.sdict es) ∧ μ b = some (.sdict es) ∧ (∀ p ∈ es, flatV p.2 = true) ∧ Q true) ∨ ∃ d e, Rd μ (.ref a) d ∧ Rd μ (.ref b) e ∧ d.depth ≤ 20 ∧ e.depth ≤ 20 ∧ Q (PyData.eqv d e)
  | a, b => ∃ d e, Rd μ a d ∧ Rd μ b e ∧ d.depth ≤ 20 ∧ e.depth ≤ 20 ∧ Q (PyData.eqv d e)

def isNone : Val → Bool
  | .none => true
  | _ => false

def look {κ : Type} [DecidableEq κ] : List (κ × Val) → κ → Option Val
  | [], _ => none
  | (k', v) :: r, k => if k' = k then some v else look r k

def wpIn (v c : Val) (μ : Mem) (Q : Bool → Prop) : Prop := match c with
  | .ref a => match μ a with
    | some (.sdict es) => match v with
      | .str x => Q (look es x).isSome
      | _ => False
    | some (.list vs) => ∃ d ds, Rd μ v d ∧ RdAll μ vs ds ∧ d.depth ≤ 20 ∧ PyData.depthAll ds ≤ 20 ∧ Q (ds.any fun x => PyData.eqv x d)
    | _ => False
  | _ => False

def wpCmp (op : COp) (va vb : Val) (μ : Mem) (Q : Bool → Prop) : Prop := match op with
  | .eq => wpEq va vb μ Q
  | .ne => wpEq va vb μ fun b => Q (!b)
  | .is => match vb with
    | .none => Q (isNone va)
    | _ => False
  | .isnot => match vb with
    | .none => Q (!isNone va)
    | _ => False
  | .isin => wpIn va vb μ Q
  | .notin => wpIn va vb μ fun b => Q (!b)
  | .lt => match va, vb with
    | .int a, .int b => Q (decide (a < b))
    | _, _ => False
  | .le => match va, vb with
    | .int a, .int b => Q (decide (a ≤ b))
    | _, _ => False
  | .gt => match va, vb with
    | .int a, .int b => Q (decide (a > b))
    | _, _ => False
  | .ge => match va, vb with
    | .int a, .int b => Q (decide (a ≥ b))
    | _, _ => False

def pyGet {α : Type} (vs : List α) (i : Int) : Option α :=
  if 0 ≤ i then vs[i.toNat]? else if -(vs.length : Int) ≤ i then vs[((vs.length : Int) + i).toNat]? else none

def wpIdx (o i : Val) (μ : Mem) (Q : VQ) : Prop := match o with
  | .ref a => match μ a with
    | some (.list vs) => match i with
      | .int k => ∃ v, pyGet vs k = some v ∧ Q v μ
      | _ => False
    | some (.arr ns) => match i with
      | .int k => ∃ v, pyGet ns k = some v ∧ 0 ≤ k ∧ Q (.int v) μ
      | _ => False
    | some (.sdict es) => match i with
      | .str x => ∃ v, look es x = some v ∧ Q v μ
      | _ => False
    | _ => False
  | .str s => match i with
    | .int k => (0 ≤ k ∧ k < s.length ∧ k < 1000000000) ∧ ∀ r : Str, r.length = 1 → Q (.str r) μ
    | _ => False
  | _ => False

/-- the two ends of a slice -/
def sliceEnd : Val → Option (Option Int)
  | .none => some none
  | .int i => some (some i)
  | _ => none

/-- a text's slice: some text of the due length (what it holds is forgotten) -/
def wpSlice (o l h : Val) (μ : Mem) (Q : VQ) : Prop := ∃ lo hi, sliceEnd l = some lo ∧ sliceEnd h = some hi ∧ match o with
  | .str s => ∀ r : Str, r.length = hi.elim s.length (PySem.clipAt s.length) - lo.elim 0 (PySem.clipAt s.length) → Q (.str r) μ
  | _ => False

def dset {κ : Type} [DecidableEq κ] (es : List (κ × Val)) (k : κ) (v : Val) : List (κ × Val) :=
  if es.any fun p => decide (p.1 = k) then es.map fun p => if p.1 = k then (p.1, v) else p else es ++ [(k, v)]

def setAt (vs : List Val) (i : Int) (v : Val) : Option (List Val) :=
  if 0 ≤ i ∧ i < vs.length then some (vs.set i.toNat v) else none

def wpSetIdx (o i v : Val) (μ : Mem) (Q : Mem → Prop) : Prop := match o with
  | .ref a => match μ a with
    | some (.list vs) => match i with
      | .int k => ∃ vs', setAt vs k v = some vs' ∧ Q (upd μ a (.list vs'))
      | _ => False
    | some (.sdict es) => match i with
      | .str x => es.length < szl ∧ Q (upd μ a (.sdict (dset es x v)))
      | _ => False
    | _ => False
  | _ => False

def rangeL (a b : Int) : List Val := (List.range (b - a).toNat).map fun k : Nat => .int (a + (k : Int))
def wpBI (b : BI) (args : List Val) (μ : Mem) (Q : VQ) : Prop := match b, args with
  | .len, [.str s] => Q (.int s.length) μ
  | .len, [.ref a] => match μ a with
    | some (.list vs) => Q (.int vs.length) μ
    | some (.arr ns) => Q (.int ns.length) μ
    | _ => False
  | .max, [.int a, .int b] => Q (.int (if a < b then b else a)) μ
  | .min, [.int a, .int b] => Q (.int (if b < a then b else a)) μ
  | .list, [.ref a] => match μ a with
    | some (.list vs) => ∀ c, μ c = none → Q (.ref c) (upd μ c (.list vs))
    | _ => False
  | .dict, [.ref a] => match μ a with
    | some (.sdict es) => ∀ c, μ c = none → Q (.ref c) (upd μ c (.sdict es))
    | _ => False
  | _, _ => False

/-- methods of lists and dicts (and of instances, by C) -/
def wpListMeth (m : LM) (a : Addr) (vs : List Val) (args : List Val) (μ : Mem) (Q : VQ) : Prop := match m, args with
  | .append, [v] => vs.length < szl ∧ Q .none (upd μ a (.list (vs ++ [v])))
  | _, _ => False
def isT (anc : Str → List Str) (μ : Mem) (v : Val) (t : Ty) : Option Bool := match v with
  | .int _ => match t with
    | .int => some true
    | _ => some false
  | .str _ => match t with
    | .str => some true
    | _ => some false
  | .bool _ => match t with
    | .int => some true
    | .bool => some true
    | _ => some false
  | .ref a => match μ a with
    | some (.list _) => match t with
      | .list => some true
      | _ => some false
    | _ => none
  | .none => none

/-- the program: what its names mean -/
structure Prog where
  fn : Callee → Option FD
  anc : Str → List Str
  flds : Str → List Str

abbrev CT := Callee → List Val → Mem → VQ → (Str → Mem → Prop) → Prop
abbrev XQ := Str → Mem → Prop

/-- a source of a loop: the object (if any) that must stand unchanged -/
abbrev Src := Option (Addr × MObj)
def live (s : Src) (μ : Mem) : Prop := match s with
  | none => True
  | some (a, o) => μ a = some o

def itSrc (k : ItK) (vs : List Val) (μ : Mem) (K : Src → List Val → Prop) : Prop := match k, vs with
  | .val, [.ref a] => match μ a with
    | some (.list xs) => K (some (a, .list xs)) xs
    | _ => False
  | .range, [.int n] => (-1000000 ≤ n ∧ n ≤ 1000000) ∧ K none (rangeL 0 n)
  | .range, [.int a, .int b] => (-1000000 ≤ a ∧ a ≤ 1000000 ∧ -1000000 ≤ b ∧ b ≤ 1000000) ∧ K none (rangeL a b)
  | _, _ => False

def pairUp : List Val → Option (List (Str × Val))
  | [] => some []
  | .str x :: v :: r => (pairUp r).map ((x, v) :: ·)
  | _ => none

mutual
def wpE (P : Prog) (C : CT) : ME → Env → Mem → VQ → XQ → Prop
  | .lit v, _, μ, Q, _ => Q v μ
  | .var i, env, μ, Q, _ => match env[i]? with
    | some (some v) => Q v μ
    | _ => False
  | .bin op a b, env, μ, Q, X => wpE P C a env μ (fun va μ₁ => wpE P C b env μ₁ (fun vb μ₂ => wpBin op va vb μ₂ Q) X) X
  | .neg a, env, μ, Q, X => wpE P C a env μ (fun v μ₁ => match v with
    | .int i => Q (.int (-i)) μ₁
    | _ => False) X
  | .not a, env, μ, Q, X => wpE P C a env μ (fun v μ₁ => match truth v with
    | some b => Q (.bool (!b)) μ₁
    | none => False) X
  | .cmp op a b, env, μ, Q, X => wpE P C a env μ (fun va μ₁ => wpE P C b env μ₁ (fun vb μ₂ => wpCmp op va vb μ₂ fun r => Q (.bool r) μ₂) X) X
  | .bool isAnd es, env, μ, Q, X => wpB P C isAnd es env μ Q X
  | .idx a i, env, μ, Q, X => wpE P C a env μ (fun va μ₁ => wpE P C i env μ₁ (fun vi μ₂ => wpIdx va vi μ₂ Q) X) X
  | .slice a l h, env, μ, Q, X => wpE P C a env μ (fun va μ₁ => wpE P C l env μ₁ (fun vl μ₂ => wpE P C h env μ₂ (fun vh μ₃ => wpSlice va vl vh μ₃ Q) X) X) X
  | .call f args, env, μ, Q, X => wpEs P C args env μ (fun vs μ₁ => C (.fn f) vs μ₁ Q X) X
  | .meth o m k args, env, μ, Q, X => wpE P C o env μ (fun v μ₁ => match v with
    | .ref a => match μ₁ a with
      | some (.list _) => k.isL = true ∧ wpEs P C args env μ₁ (fun vs μ₂ => match μ₂ a with
        | some (.list xs) => wpListMeth k a xs vs μ₂ Q
        | _ => False) X
      | _ => False
    | _ => False) X
  | .bi b args, env, μ, Q, X => wpEs P C args env μ (fun vs μ₁ => wpBI b vs μ₁ Q) X
  | .isinst a t, env, μ, Q, X => wpE P C a env μ (fun v μ₁ => match isT P.anc μ₁ v t with
    | some b => Q (.bool b) μ₁
    | none => False) X
  | .list es, env, μ, Q, X => wpEs P C es env μ (fun vs μ₁ => vs.length ≤ szl ∧ ∀ a, μ₁ a = none → Q (.ref a) (upd μ₁ a (.list vs))) X
  | .dict tk kvs, env, μ, Q, X => wpEs P C kvs env μ (fun vs μ₁ => match tk, vs with
    | false, vs => match pairUp vs with
      | some ps => ps.length ≤ 15 ∧ ∀ a, μ₁ a = none → Q (.ref a) (upd μ₁ a (.sdict (ps.foldl (fun es p => dset es p.1 p.2) [])))
      | none => False
    | _, _ => False) X
def wpEs (P : Prog) (C : CT) : List ME → Env → Mem → (List Val → Mem → Prop) → XQ → Prop
  | [], _, μ, Q, _ => Q [] μ
  | e :: es, env, μ, Q, X => wpE P C e env μ (fun v μ₁ => wpEs P C es env μ₁ (fun vs μ₂ => Q (v :: vs) μ₂) X) X
/-- and, or: the value -/
def wpB (P : Prog) (C : CT) (isAnd : Bool) : List ME → Env → Mem → VQ → XQ → Prop
  | [], _, _, _, _ => False
  | [e], env, μ, Q, X => wpE P C e env μ Q X
  | e :: es, env, μ, Q, X => wpE P C e env μ (fun v μ₁ => match truth v with
    | some b => if b = isAnd then wpB P C isAnd es env μ₁ Q X else Q v μ₁
    | none => False) X
/-- a test; whole: the expression's own value -/
def wpT (P : Prog) (C : CT) : ME → (whole : Env → Mem → VQ → XQ → Prop) → Env → Mem → (Bool → Mem → Prop) → XQ → Prop
  | .not a, _, env, μ, Q, X => wpT P C a (wpE P C a) env μ (fun b μ₁ => Q (!b) μ₁) X
  | .bool isAnd es, _, env, μ, Q, X => wpTs P C isAnd es env μ Q X
  | .cmp op a b, _, env, μ, Q, X => wpE P C a env μ (fun va μ₁ => wpE P C b env μ₁ (fun vb μ₂ => wpCmp op va vb μ₂ fun r => Q r μ₂) X) X
  | _, whole, env, μ, Q, X => whole env μ (fun v μ₁ => match truth v with
    | some b => Q b μ₁
    | none => False) X
def wpTs (P : Prog) (C : CT) (isAnd : Bool) : List ME → Env → Mem → (Bool → Mem → Prop) → XQ → Prop
  | [], _, μ, Q, _ => Q isAnd μ
  | e :: es, env, μ, Q, X => wpT P C e (wpE P C e) env μ (fun b μ₁ => if b = isAnd then wpTs P C isAnd es env μ₁ Q X else Q (!isAnd) μ₁) X
end

abbrev SQ := Flow → Env → Mem → Prop

def forLoop (body : Val → Env → Mem → SQ → Prop) (s : Src) : List Val → Env → Mem → SQ → Prop
  | [], env, μ, Q => Q .next env μ
  | v :: vs, env, μ, Q => body v env μ fun fl env' μ' => match fl with
    | .next => live s μ' ∧ forLoop body s vs env' μ' Q
    | .cont => live s μ' ∧ forLoop body s vs env' μ' Q
    | .brk => Q .next env' μ'
    | .ret r => Q (.ret r) env' μ'

def whileLoop (test : Env → Mem → (Bool → Mem → Prop) → Prop) (body : Env → Mem → SQ → Prop) (env : Env) (μ : Mem) (Q : SQ) : Prop :=
  ∃ I : Nat → Env → Mem → Prop, (∃ n, I n env μ) ∧ ∀ n env μ, I n env μ → test env μ fun b μ' => match b with
    | true => body env μ' fun fl env' μ'' => match fl with
      | .next => ∃ m, m < n ∧ I m env' μ''
      | .cont => ∃ m, m < n ∧ I m env' μ''
      | .brk => Q .next env' μ''
      | .ret r => Q (.ret r) env' μ''
    | false => Q .next env μ'

/-- the targets of a for, of an unpacking -/
def bindT (xs : List Nat) (v : Val) (μ : Mem) (env : Env) (K : Env → Prop) : Prop := match xs with
  | [x] => K (env.set x (some v))
  | _ => False

mutual
def wpS (P : Prog) (C : CT) : MS → Env → Mem → SQ → (Str → Env → Mem → Prop) → Prop
  | .expr e, env, μ, Q, X => wpE P C e env μ (fun _ μ' => Q .next env μ') (fun c μ' => X c env μ')
  | .asg x e, env, μ, Q, X => wpE P C e env μ (fun v μ' => Q .next (env.set x (some v)) μ') (fun c μ' => X c env μ')
  | .asgIdx o i e, env, μ, Q, X => wpE P C e env μ (fun v μ₁ => wpE P C o env μ₁ (fun vo μ₂ => wpE P C i env μ₂ (fun vi μ₃ => wpSetIdx vo vi v μ₃ fun μ₄ => Q .next env μ₄) (fun c μ' => X c env μ')) (fun c μ' => X c env μ')) (fun c μ' => X c env μ')
  | .ite t a b, env, μ, Q, X => wpT P C t (wpE P C t) env μ (fun r μ' => match r with
    | true => wpSs P C a env μ' Q X
    | false => wpSs P C b env μ' Q X) (fun c μ' => X c env μ')
  | .while t b, env, μ, Q, X => whileLoop (fun env μ K => wpT P C t (wpE P C t) env μ K (fun c μ' => X c env μ')) (fun env μ K => wpSs P C b env μ K X) env μ Q
  | .for xs k args b, env, μ, Q, X => wpEs P C args env μ (fun vs μ₁ => itSrc k vs μ₁ fun s items =>
      forLoop (fun v env μ K => bindT xs v μ env fun env' => wpSs P C b env' μ K X) s items env μ₁ Q) (fun c μ' => X c env μ')
  | .ret e, env, μ, Q, X => wpE P C e env μ (fun v μ' => Q (.ret v) env μ') (fun c μ' => X c env μ')
  | .pass, env, μ, Q, _ => Q .next env μ
def wpSs (P : Prog) (C : CT) : List MS → Env → Mem → SQ → (Str → Env → Mem → Prop) → Prop
  | [], env, μ, Q, _ => Q .next env μ
  | s :: ss, env, μ, Q, X => wpS P C s env μ (fun fl env' μ' => match fl with
    | .next => wpSs P C ss env' μ' Q X
    | fl => Q fl env' μ') X
end

def retVal : Flow → Val
  | .ret v => v
  | _ => .none

def initEnv (fd : FD) (vs : List Val) : Env := vs.map some ++ List.replicate (fd.nvars - vs.length) none

def callN (P : Prog) : Nat → CT
  | 0, _, _, _, _, _ => False
  | n + 1, f, vs, μ, Q, X => match P.fn f with
    | some fd => vs.length = fd.nparams ∧ wpSs P (callN P n) fd.body (initEnv fd vs) μ (fun fl _ μ' => Q (retVal fl) μ') (fun c _ μ' => X c μ')
    | none => False

end Mine

-- part MiniB
namespace Mine
open PySem (Str Addr PyData)

abbrev Tbl := List (Str × Nat)

def isGlob (sc : PySem.Scope) (id : Str) : Bool := sc.names.lookup id == some .globalImplicit && !(id == Str.ofString "__debug__")
def binOf : BOp → PySem.Operator
  | .add => .Add
  | .sub => .Sub
  | .mul => .Mult
  | .fdiv => .FloorDiv
  | .mod => .Mod
def binIs (op : BOp) (o : PySem.Operator) : Bool := o == binOf op
def cmpOf : COp → PySem.CmpOp
  | .eq => .Eq
  | .ne => .NotEq
  | .lt => .Lt
  | .le => .LtE
  | .gt => .Gt
  | .ge => .GtE
  | .is => .Is
  | .isnot => .IsNot
  | .isin => .In
  | .notin => .NotIn
def cmpIs (op : COp) (o : PySem.CmpOp) : Bool := o == cmpOf op
def litIs : Val → PySem.Const → Bool
  | .none, .none => true
  | .bool a, .bool b => a == b
  | .int a, .int b => a == b
  | .str a, .str b => a == b && PyData.strOk b && decide (b.length ≤ 1000)
  | _, _ => false
def notSuper : PySem.Expr → Bool
  | .Call (.Name id _) [] [] _ => id != Str.ofString "super"
  | _ => true
def biName : BI → String
  | .len => "len" | .max => "max" | .min => "min" | .list => "list"
  | .dict => "dict"
def lmName : LM → String
  | .append => "append"
def tyName : Ty → Str
  | .int => Str.ofString "int" | .bool => Str.ofString "bool" | .str => Str.ofString "str" | .list => Str.ofString "list"
def isComp : PySem.Expr → Bool
  | .ListComp .. | .SetComp .. | .DictComp .. => true
  | _ => false


open PySem in
section
def vName : PySem.Expr → Option Str
  | .Name id _ => some id
  | _ => none
def vConst : PySem.Expr → Option PySem.Const
  | .Constant c _ _ => some c
  | _ => none
def vBin : PySem.Expr → Option (PySem.Expr × PySem.Operator × PySem.Expr)
  | .BinOp l o r _ => some (l, o, r)
  | _ => none
def vUn : PySem.Expr → Option (PySem.UnaryOp × PySem.Expr)
  | .UnaryOp o x _ => some (o, x)
  | _ => none
def vCmp : PySem.Expr → Option (PySem.Expr × List PySem.CmpOp × List PySem.Expr)
  | .Compare l os rs _ => some (l, os, rs)
  | _ => none
def vBool : PySem.Expr → Option (PySem.BoolOp × List PySem.Expr)
  | .BoolOp o vs _ => some (o, vs)
  | _ => none
def vSub : PySem.Expr → Option (PySem.Expr × PySem.Expr)
  | .Subscript v s _ => some (v, s)
  | _ => none
def vSlice : PySem.Expr → Option (Option PySem.Expr × Option PySem.Expr × Option PySem.Expr)
  | .Slice l h s _ => some (l, h, s)
  | _ => none
def vAttr : PySem.Expr → Option (PySem.Expr × Str × PySem.Pos)
  | .Attribute v g p => some (v, g, p)
  | _ => none
def vCall : PySem.Expr → Option (PySem.Expr × List PySem.Expr × List PySem.Keyword × PySem.Pos)
  | .Call f as ks p => some (f, as, ks, p)
  | _ => none
def vList : PySem.Expr → Option (List PySem.Expr)
  | .List xs _ => some xs
  | _ => none
def vDict : PySem.Expr → Option (List (Option PySem.Expr) × List PySem.Expr)
  | .Dict ks vs _ => some (ks, vs)
  | _ => none
def one {α : Type} : List α → Option α
  | [x] => some x
  | _ => none
def two {α : Type} : List α → Option (α × α)
  | [x, y] => some (x, y)
  | _ => none
/-- the call of a plain name, without keywords -/
def nCall (e : PySem.Expr) : Option (Str × List PySem.Expr) := (vCall e).bind fun x => if x.2.2.1.isEmpty && decide (x.2.1.length ≤ 20) then (vName x.1).map fun id => (id, x.2.1) else none
end
def itArgs (sc : PySem.Scope) (k : ItK) (it : PySem.Expr) : Option (List PySem.Expr) := match k with
  | .val => some [it]
  | .range => (nCall it).bind fun x => if x.1 == Str.ofString "range" && isGlob sc x.1 then some x.2 else none

def isNoneLit : ME → Bool
  | .lit v => (match v with | .none => true | _ => false)
  | _ => false
def biArgs (sc : PySem.Scope) (b : BI) (e : PySem.Expr) : Option (List PySem.Expr) := match b with
  | b => (nCall e).bind fun x => if x.1 == Str.ofString (biName b) && isGlob sc x.1 then some x.2 else none

def ownOr (k : LM) (m : Str) : Bool :=
  m == Str.ofString (lmName k)
mutual
def chkE (sc : PySem.Scope) (tbl : Tbl) : ME → PySem.Expr → Bool
  | .lit v, e => (vConst e).any fun c => litIs v c
  | .var i, e => (vName e).any fun id => tbl.lookup id == some i && !(id == Str.ofString "__debug__") && !(id == Str.ofString "__classdict__")
  | .bin op a b, e => (vBin e).any fun x => binIs op x.2.1 && chkE sc tbl a x.1 && chkE sc tbl b x.2.2
  | .neg a, e => (vUn e).any fun x => x.1 == .USub && chkE sc tbl a x.2
  | .not a, e => (vUn e).any fun x => x.1 == .Not && chkE sc tbl a x.2
  | .cmp op a b, e => (vCmp e).any fun x => (one x.2.1).any fun o => (one x.2.2).any fun r => cmpIs op o && chkE sc tbl a x.1 && chkE sc tbl b r
  | .bool isAnd es, e => (vBool e).any fun x => x.1 == (if isAnd then .And else .Or) && decide (2 ≤ es.length) && chkEs sc tbl es x.2
  | .idx a i, e => (vSub e).any fun x => chkE sc tbl a x.1 && chkE sc tbl i x.2
  | .slice a l h, e => (vSub e).any fun x => (vSlice x.2).any fun y => chkE sc tbl a x.1 && y.2.2.isNone && (match y.1 with
      | none => isNoneLit l
      | some e => chkE sc tbl l e) && (match y.2.1 with
      | none => isNoneLit h
      | some e => chkE sc tbl h e)
  | .call f args, e => (nCall e).any fun x => x.1 == f && isGlob sc f && chkEs sc tbl args x.2
  | .meth o m k args, e => (vCall e).any fun y => (vAttr y.1).any fun x => y.2.2.1.isEmpty && x.2.1 == m && ownOr k m && x.2.2.endLine == y.2.2.2.line && notSuper x.1 && decide (y.2.1.length ≤ 20) && chkE sc tbl o x.1 && chkEs sc tbl args y.2.1
  | .bi b args, e => (biArgs sc b e).any fun as => chkEs sc tbl args as
  | .isinst a t, e => (nCall e).any fun x => x.1 == Str.ofString "isinstance" && isGlob sc x.1 && (two x.2).any fun y => (vName y.2).any fun tn => tn == tyName t && isGlob sc tn && chkE sc tbl a y.1
  | .list es, e => (vList e).any fun x => chkEs sc tbl es x
  | .dict tk kvs, e => (vDict e).any fun x => decide (x.1.length = x.2.length) && decide (x.1.length ≤ 15) && chkEs sc tbl kvs ((x.1.zip x.2).flatMap fun p => p.1.toList ++ [p.2]) && decide (kvs.length = 2 * x.1.length) && (!tk || kvs.isEmpty)
def chkEs (sc : PySem.Scope) (tbl : Tbl) : List ME → List PySem.Expr → Bool
  | [], xs => xs.isEmpty
  | e :: es, xs => match xs with
    | [] => false
    | x :: xs => chkE sc tbl e x && chkEs sc tbl es xs
end

def tgt1 (tbl : Tbl) (sc : PySem.Scope) (i : Nat) (e : PySem.Expr) : Bool := (vName e).any fun id => tbl.lookup id == some i && !isGlob sc id
def forT (tbl : Tbl) (sc : PySem.Scope) (xs : List Nat) (e : PySem.Expr) : Bool :=
  (one xs).any fun i => tgt1 tbl sc i e
def chkIt (sc : PySem.Scope) (tbl : Tbl) (k : ItK) (args : List ME) (it : PySem.Expr) : Bool := (itArgs sc k it).any fun as => chkEs sc tbl args as

def sExpr : PySem.Stmt → Option PySem.Expr
  | .Expr x _ => some x
  | _ => none
def sAssign : PySem.Stmt → Option (PySem.Expr × PySem.Expr)
  | .Assign ts v _ => (one ts).map fun t => (t, v)
  | _ => none
def sIf : PySem.Stmt → Option (PySem.Expr × List PySem.Stmt × List PySem.Stmt)
  | .If e x y _ => some (e, x, y)
  | _ => none
def sWhile : PySem.Stmt → Option (PySem.Expr × List PySem.Stmt × List PySem.Stmt)
  | .While e x y _ => some (e, x, y)
  | _ => none
def sFor : PySem.Stmt → Option (PySem.Expr × PySem.Expr × List PySem.Stmt × List PySem.Stmt)
  | .For t it x y _ => some (t, it, x, y)
  | _ => none
def sRet : PySem.Stmt → Option PySem.Expr
  | .Return v _ => v
  | _ => none
def sPass : PySem.Stmt → Bool
  | .Pass _ => true
  | _ => false
mutual
def chkS (sc : PySem.Scope) (tbl : Tbl) : MS → PySem.Stmt → Bool
  | .expr e, s => (sExpr s).any fun x => !isComp x && chkE sc tbl e x
  | .asg i e, s => (sAssign s).any fun x => tgt1 tbl sc i x.1 && chkE sc tbl e x.2
  | .asgIdx o i e, s => (sAssign s).any fun x => (vSub x.1).any fun y => chkE sc tbl e x.2 && chkE sc tbl o y.1 && chkE sc tbl i y.2
  | .ite t a b, s => (sIf s).any fun x => chkE sc tbl t x.1 && chkSs sc tbl a x.2.1 && chkSs sc tbl b x.2.2
  | .while t b, s => (sWhile s).any fun x => x.2.2.isEmpty && chkE sc tbl t x.1 && chkSs sc tbl b x.2.1
  | .for xs k args b, s => (sFor s).any fun x => x.2.2.2.isEmpty && forT tbl sc xs x.1 && chkIt sc tbl k args x.2.1 && chkSs sc tbl b x.2.2.1
  | .ret e, s => (sRet s).any fun x => chkE sc tbl e x
  | .pass, s => sPass s
def chkSs (sc : PySem.Scope) (tbl : Tbl) : List MS → List PySem.Stmt → Bool
  | [], xs => xs.isEmpty
  | s :: ss, xs => match xs with
    | [] => false
    | x :: xs => chkS sc tbl s x && chkSs sc tbl ss xs
end

/-- the names of a function's own block that hold values, in their order -/
def tblOf (sc : PySem.Scope) : Tbl :=
  ((sc.names.filter fun n => n.2 == .local || n.2 == .cell).map (·.1)).zipIdx

/-- a def of the text against a mini function -/
def chkF (fd : FD) (params : PySem.Arguments) (body : List PySem.Stmt) (sc : PySem.Scope) : Bool :=
  sc.kind == .function && !sc.isGenerator && !sc.isCoroutine && params.posonlyargs.isEmpty && params.vararg.isNone && params.kwonlyargs.isEmpty && params.kwarg.isNone && params.defaults.isEmpty &&
  params.args.length == fd.nparams && (tblOf sc).length ≤ fd.nvars && fd.nparams ≤ fd.nvars &&
  ((tblOf sc).map (·.1)).take fd.nparams == params.args.map (·.arg) && ((tblOf sc).map (·.1)).eraseDups.length == (tblOf sc).length &&
  (sc.names.map (·.1)).eraseDups.length == sc.names.length && sc.names.all (fun n => n.2 == .local || n.2 == .cell || n.2 == .globalImplicit) && chkSs sc (tblOf sc) fd.body body

end Mine

-- part MiniC
namespace Mine
open PySem PyProof.Rows

structure Cx where
  prog : Program
  w : World
  h₀ : Heap
  P : Prog
  cls : Str → Option Addr
  mg : Str → Option Value
  mb : Str → Option Value

abbrev Cx.M (cx : Cx) := model cx.prog cx.w

abbrev IsT (H : Heap) (a : Addr) (items : Array Value) (n : Nat) : Prop := H.get? a = some { cls := .type "tuple", dict := none, data := .seq items n, slots := #[] }

/-- neither a namespace nor a cell -/
def steady (o : Obj) : Bool := match o.data with
  | .dict .. => false
  | .cell _ => false
  | _ => true
abbrev KeepT (H H' : Heap) : Prop := ∀ a o, H.get? a = some o → o.cls = .type "tuple" → steady o = true → H'.get? a = some o
abbrev KeepC (H H' : Heap) : Prop := ∀ a o, H.get? a = some o → ∃ o', H'.get? a = some o' ∧ (steady o = true → o'.cls = o.cls ∧ steady o' = true)
theorem KeepT.of {H H' : Heap} (hk : ∀ b ob, H.get? b = some ob → H'.get? b = some ob) : KeepT H H' := fun a o h _ _ => hk a o h
theorem KeepC.of {H H' : Heap} (hk : ∀ b ob, H.get? b = some ob → H'.get? b = some ob) : KeepC H H' := fun a o h => ⟨o, hk a o h, fun q => ⟨rfl, q⟩⟩

abbrev KeepR (H H' : Heap) : Prop := ∀ a o C, H.get? a = some o → o.cls = .ref C → steady o = true → ∃ o', H'.get? a = some o' ∧ o'.cls = .ref C ∧ steady o' = true
theorem KeepC.r {H H' : Heap} (h : KeepC H H') : KeepR H H' := fun a o C e hc hs => let ⟨o', e', q⟩ := h a o e; ⟨o', e', (q hs).1.trans hc, (q hs).2⟩
theorem KeepR.of {H H' : Heap} (hk : ∀ b ob, H.get? b = some ob → H'.get? b = some ob) : KeepR H H' := (KeepC.of hk).r

mutual
inductive VRep (cx : Cx) (H : Heap) : Val → Value → Prop
  | none : VRep cx H .none .none
  | bool (b) : VRep cx H (.bool b) (.bool b)
  | int (i t) : VRep cx H (.int i) (.int i t)
  | str {s} (t) : PyData.strOk s = true → s.length ≤ sizeLine → VRep cx H (.str s) (.str s t)
  | ref (a) : VRep cx H (.ref a) (.ref a)
inductive VReps (cx : Cx) (H : Heap) : List Val → List Value → Prop
  | nil : VReps cx H [] []
  | cons {v vs x xs} : VRep cx H v x → VReps cx H vs xs → VReps cx H (v :: vs) (x :: xs)
end

/-- the entries of an object's own dict -/
def FRep (cx : Cx) (H : Heap) (fs : List (Str × Val)) (mA : Str → Option Value) : Prop :=
  ∀ f, (∀ v, look fs f = some v → ∃ x, mA f = some x ∧ VRep cx H v x) ∧ (look fs f = none → mA f = none)

def PairsRep {κ : Type} (cx : Cx) (H : Heap) (es : List (κ × Val)) (xs : List (κ × Value)) : Prop :=
  xs.map (·.1) = es.map (·.1) ∧ VReps cx H (es.map (·.2)) (xs.map (·.2))

def ORep (cx : Cx) (H : Heap) (a : Addr) : MObj → Prop
  | .list vs => ∃ items n, IsL H a items n ∧ VReps cx H vs items.toList ∧ vs.length ≤ sizeLine
  | .sdict es => (a == sysModules) = false ∧ (∀ p ∈ es, PyData.strOk p.1 = true ∧ p.1.length ≤ sizeLine) ∧ es.length ≤ sizeLine ∧ ∃ xs, H.DictOf (strKind cx.prog cx.w) a xs ∧ PairsRep cx H es xs
  | .inst c fs => ∃ C dx o mA, cx.cls c = some C ∧ H.get? a = some o ∧ o.cls = .ref C ∧ o.dict = some dx ∧ (∀ cd, o.data ≠ .cls cd) ∧ dx ≠ a ∧ H.Ns1 dx mA ∧ FRep cx H fs mA ∧ (∀ p ∈ fs, p.1 ∈ cx.P.flds c) ∧ fs.length ≤ 1000
  | .arr ns => ∃ vals, cx.h₀.IsList a vals.toArray ∧ IntsAre vals ns ∧ ns.length ≤ sizeLine

def owned : MObj → Prop
  | .arr _ => False
  | _ => True

/-- the addresses that the small heap owns: its objects and their dicts -/
def Own (μ : Mem) (H : Heap) (a : Addr) : Prop := (∃ o, μ a = some o ∧ owned o) ∨ ∃ x c fs o, μ x = some (.inst c fs) ∧ H.get? x = some o ∧ o.dict = some a

structure Rel (cx : Cx) (μ : Mem) (H : Heap) : Prop where
  base : ∀ a o, cx.h₀.get? a = some o → H.get? a = some o
  rep : ∀ a o, μ a = some o → ORep cx H a o
  new : ∀ a, Own μ H a → cx.h₀.get? a = none
  dnot : ∀ x c fs o d, μ x = some (.inst c fs) → H.get? x = some o → o.dict = some d → μ d = none
  dsep : ∀ x y c c' fs fs' o o' d, μ x = some (.inst c fs) → μ y = some (.inst c' fs') → H.get? x = some o → H.get? y = some o' → o.dict = some d → o'.dict = some d → x = y

/-- one step: what it may change -/
structure Step (cx : Cx) (F : Addr → Prop) (μ : Mem) (H : Heap) (μ' : Mem) (H' : Heap) : Prop where
  rel : Rel cx μ' H'
  keep : ∀ a o, H.get? a = some o → ¬ Own μ H a → ¬ F a → H'.get? a = some o
  own : ∀ a, Own μ' H' a → Own μ H a ∨ H.get? a = none
  cls : KeepC H H'
  tup : KeepT H H'

theorem Rel.own_some {cx : Cx} {μ : Mem} {H : Heap} (R : Rel cx μ H) {a : Addr} (h : Own μ H a) : ∃ o, H.get? a = some o ∧ (steady o = true → o.cls ≠ .type "tuple") := by
  rcases h with ⟨o, ho, hw⟩ | ⟨x, c, fs, o, hx, ho, hd⟩
  · have r := R.rep a o ho
    cases o with
    | arr ns => exact hw.elim
    | list vs => obtain ⟨items, n, h, _⟩ := r; exact ⟨_, h, fun _ => by simp⟩
    | sdict es => obtain ⟨_, _, _, xs, ⟨o, _, _, ho, hc, _⟩, _⟩ := r; exact ⟨o, ho, fun _ => by rw [hc.1]; simp⟩
    | inst c fs => obtain ⟨C, dx, o, mA, _, h, hc, _⟩ := r; exact ⟨_, h, fun _ e => by rw [hc] at e; cases e⟩
  · obtain ⟨C, dx, o', mA, _, h, _, h2, _, _, ⟨od, _, _, e1, e2, _⟩, _⟩ := R.rep x _ hx
    rw [h] at ho; cases ho
    rw [h2] at hd; cases hd
    exact ⟨_, e1, fun e => by unfold steady at e; rw [e2] at e; cases e⟩

mutual
theorem VRep.mono {cx : Cx} {H H' : Heap} (ht : KeepT H H') (hc : KeepR H H') :
    ∀ {v x}, VRep cx H v x → VRep cx H' v x
  | _, _, .none => .none
  | _, _, .bool b => .bool b
  | _, _, .int i t => .int i t
  | _, _, .str t h1 h2 => .str t h1 h2
  | _, _, .ref a => .ref a
theorem VReps.mono {cx : Cx} {H H' : Heap} (ht : KeepT H H') (hc : KeepR H H') :
    ∀ {v x}, VReps cx H v x → VReps cx H' v x
  | _, _, .nil => .nil
  | _, _, .cons h1 h2 => .cons (VRep.mono ht hc h1) (VReps.mono ht hc h2)
end

theorem FRep.mono {cx : Cx} {H H' : Heap} (ht : KeepT H H') (hc : KeepR H H') {fs mA} (h : FRep cx H fs mA) : FRep cx H' fs mA :=
  fun f => ⟨fun v e => let ⟨x, a, b⟩ := (h f).1 v e; ⟨x, a, b.mono ht hc⟩, (h f).2⟩

theorem Step.v {cx : Cx} {F : Addr → Prop} {μ μ' : Mem} {H H' : Heap} (S : Step cx F μ H μ' H') {v x} (h : VRep cx H v x) : VRep cx H' v x := h.mono S.tup S.cls.r
theorem Step.vs {cx : Cx} {F : Addr → Prop} {μ μ' : Mem} {H H' : Heap} (S : Step cx F μ H μ' H') {v x} (h : VReps cx H v x) : VReps cx H' v x := h.mono S.tup S.cls.r

theorem Step.refl {cx : Cx} {F : Addr → Prop} {μ : Mem} {H : Heap} (R : Rel cx μ H) : Step cx F μ H μ H :=
  ⟨R, fun _ _ h _ _ => h, fun _ h => .inl h, KeepC.of fun _ _ h => h, KeepT.of fun _ _ h => h⟩

theorem Step.trans {cx : Cx} {F : Addr → Prop} {μ μ₁ μ₂ : Mem} {H H₁ H₂ : Heap} (a : Step cx F μ H μ₁ H₁) (b : Step cx F μ₁ H₁ μ₂ H₂) : Step cx F μ H μ₂ H₂ := by
  refine ⟨b.rel, fun x o hx hn hf => b.keep x o (a.keep x o hx hn hf) (fun h => ?_) hf, fun x hx => ?_, fun x o hx => ?_, fun x o hx hc hs => b.tup x o (a.tup x o hx hc hs) hc hs⟩
  · rcases a.own x h with h | h
    · exact hn h
    · rw [hx] at h; cases h
  · rcases b.own x hx with h | h
    · exact a.own x h
    · cases hq : H.get? x with
      | none => exact .inr rfl
      | some o => obtain ⟨o', h', _⟩ := a.cls x o hq; rw [h] at h'; cases h'
  · obtain ⟨o', h', e'⟩ := a.cls x o hx
    obtain ⟨o'', h'', e''⟩ := b.cls x o' h'
    exact ⟨o'', h'', fun q => ⟨(e'' (e' q).2).1.trans (e' q).1, (e'' (e' q).2).2⟩⟩

theorem Step.weaken {cx : Cx} {F F' : Addr → Prop} {μ μ' : Mem} {H H' : Heap} (a : Step cx F μ H μ' H') (h : ∀ x, F x → F' x) : Step cx F' μ H μ' H' :=
  ⟨a.rel, fun x o hx hn hf => a.keep x o hx hn fun q => hf (h x q), a.own, a.cls, a.tup⟩

/-- everything that the relation speaks of stands in H' as in H -/
theorem ORep.mono {cx : Cx} {μ : Mem} {H H' : Heap} (R : Rel cx μ H) {a : Addr} {o : MObj} (hμ : μ a = some o) (hk : owned o → ∀ ob, H.get? a = some ob → H'.get? a = some ob)
    (hkd : ∀ c fs ob d od, o = .inst c fs → H.get? a = some ob → ob.dict = some d → H.get? d = some od → H'.get? d = some od)
    (ht : KeepT H H') (hc : KeepR H H') : ORep cx H' a o := by
  have r := R.rep a o hμ
  cases o with
  | arr ns => exact r
  | list vs => obtain ⟨items, n, h, h2, h3⟩ := r; exact ⟨items, n, hk trivial _ h, h2.mono ht hc, h3⟩
  | sdict es =>
    obtain ⟨h1, h2, h2', xs, ⟨ob, es', ep, ho, r'⟩, h4, h5⟩ := r
    exact ⟨h1, h2, h2', xs, ⟨ob, es', ep, hk trivial _ ho, r'⟩, h4, h5.mono ht hc⟩
  | inst c fs =>
    obtain ⟨C, dx, o, mA, h1, h2, h3, h4, h5, h6, ⟨od, es, ep, e1, r⟩, h8, h9⟩ := r
    exact ⟨C, dx, o, mA, h1, hk trivial _ h2, h3, h4, h5, h6, ⟨od, es, ep, hkd c fs _ dx _ rfl h2 h4 e1, r⟩, h8.mono ht hc, h9⟩

/-- a change that touches nothing owned, no tuple, nothing of the base -/
theorem Rel.mono {cx : Cx} {μ : Mem} {H H' : Heap} (R : Rel cx μ H) (hk : ∀ b ob, H.get? b = some ob → Own μ H b ∨ cx.h₀.get? b = some ob → H'.get? b = some ob)
    (ht : KeepT H H') (hc : KeepR H H') :
    Rel cx μ H' ∧ (∀ a, Own μ H' a ↔ Own μ H a) := by
  have same : ∀ x c fs, μ x = some (.inst c fs) → H'.get? x = H.get? x := fun x c fs hx => by
    obtain ⟨ob, h, _⟩ := R.own_some (.inl ⟨_, hx, trivial⟩)
    rw [h]; exact hk _ _ h (.inl (.inl ⟨_, hx, trivial⟩))
  have own : ∀ a, Own μ H' a ↔ Own μ H a := fun a => by
    constructor
    · rintro (h | ⟨x, c, fs, o, hx, ho, hd⟩)
      · exact .inl h
      · exact .inr ⟨x, c, fs, o, hx, (same x _ _ hx) ▸ ho, hd⟩
    · rintro (h | ⟨x, c, fs, o, hx, ho, hd⟩)
      · exact .inl h
      · exact .inr ⟨x, c, fs, o, hx, (same x _ _ hx).trans ho, hd⟩
  refine ⟨⟨fun a o h => hk _ _ (R.base a o h) (.inr h), fun a o h => ORep.mono R h (fun hw ob hb => hk _ _ hb (.inl (.inl ⟨o, h, hw⟩))) (fun c fs ob d od e hb hd hod => hk _ _ hod (.inl (.inr ⟨a, c, fs, ob, e ▸ h, hb, hd⟩))) ht hc, fun a h => R.new a ((own a).mp h), fun x c fs o d hx ho hd => ?_, ?_⟩, own⟩
  · rw [same x _ _ hx] at ho; exact R.dnot x c fs o d hx ho hd
  · intro x y c c' fs fs' o o' d hx hy ho ho' hd hd'
    rw [same x _ _ hx] at ho; rw [same y _ _ hy] at ho'
    exact R.dsep x y c c' fs fs' o o' d hx hy ho ho' hd hd'

theorem Step.of_mono {cx : Cx} {F : Addr → Prop} {μ : Mem} {H H' : Heap} (R : Rel cx μ H) (hk : ∀ b ob, H.get? b = some ob → ¬ F b → H'.get? b = some ob) (hF : ∀ b, F b → ¬ Own μ H b ∧ cx.h₀.get? b = none)
    (ht : KeepT H H') (hc : KeepC H H') : Step cx F μ H μ H' := by
  obtain ⟨R', own⟩ := R.mono (fun b ob hb h => hk b ob hb fun hf => h.elim (hF b hf).1 fun h => by rw [(hF b hf).2] at h; cases h) ht hc.r
  exact ⟨R', fun a o h _ hf => hk a o h hf, fun a h => .inl ((own a).mp h), hc, ht⟩

theorem Step.grow {cx : Cx} {F : Addr → Prop} {μ : Mem} {H H' : Heap} (R : Rel cx μ H) (hk : ∀ b ob, H.get? b = some ob → H'.get? b = some ob) : Step cx F μ H μ H' := by
  obtain ⟨R', own⟩ := R.mono (fun b ob hb _ => hk b ob hb) (KeepT.of hk) (KeepR.of hk)
  exact ⟨R', fun a o h _ _ => hk a o h, fun a h => .inl ((own a).mp h), KeepC.of hk, KeepT.of hk⟩

/-- an object that was not there before, and that nothing stands for (an iterator), is changed -/
theorem Step.touch {cx : Cx} {F : Addr → Prop} {μ μ₁ : Mem} {H H₁ H' : Heap} {I : Addr} (R : Rel cx μ H) (S : Step cx F μ H μ₁ H₁) (hn : H.get? I = none) (hno : ¬ Own μ₁ H₁ I)
    (hI : ∀ o, H₁.get? I = some o → ∃ T, o.cls = .type T ∧ T ≠ "tuple") (hk : ∀ b ob, b ≠ I → H₁.get? b = some ob → H'.get? b = some ob) : Step cx F μ H μ₁ H' := by
  have hb : cx.h₀.get? I = none := by
    cases q : cx.h₀.get? I with
    | none => rfl
    | some o => rw [R.base I o q] at hn; cases hn
  have nI : ∀ a o, H.get? a = some o → a ≠ I := fun a o h e => by subst e; rw [hn] at h; cases h
  obtain ⟨R', own⟩ := S.rel.mono (H' := H') (fun b ob hb' h => hk b ob (fun e => by
      subst e
      rcases h with h | h
      · exact hno h
      · rw [hb] at h; cases h) hb') (fun a o h hc hs => hk a o (fun e => by subst e; obtain ⟨T, h1, h2⟩ := hI o h; rw [h1] at hc; injection hc with hc; exact h2 hc) h)
    (fun a o C h hc hs => ⟨o, hk a o (fun e => by subst e; obtain ⟨T, h1, h2⟩ := hI o h; rw [h1] at hc; cases hc) h, hc, hs⟩)
  exact ⟨R', fun a o h h1 h2 => hk a o (nI a o h) (S.keep a o h h1 h2), fun a h => S.own a ((own a).mp h), fun a o h => let ⟨o', h1, h2⟩ := S.cls a o h; ⟨o', hk a o' (nI a o h) h1, h2⟩, fun a o h h1 h2 => hk a o (nI a o h) (S.tup a o h h1 h2)⟩

def notInst : MObj → Prop
  | .inst .. => False
  | .arr _ => False
  | _ => True
theorem notInst.owned {o : MObj} (h : notInst o) : owned o := by cases o <;> first | exact h.elim | trivial

theorem upd_same {μ : Mem} {a : Addr} {o : MObj} : upd μ a o a = some o := by simp [upd]
theorem upd_ne {μ : Mem} {a b : Addr} {o : MObj} (h : b ≠ a) : upd μ a o b = μ b := by simp [upd, h]

/-- a list or dict is laid (fresh) or changed (owned) -/
theorem Step.put {cx : Cx} {F : Addr → Prop} {μ : Mem} {H H' : Heap} {a : Addr} {mo : MObj} (R : Rel cx μ H) (hk : ∀ b ob, H.get? b = some ob → b ≠ a → H'.get? b = some ob)
    (ho : ORep cx H' a mo) (hi : notInst mo) (ha : H.get? a = none ∨ ∃ old, μ a = some old ∧ notInst old) (hcls : ∀ o, H.get? a = some o → ∃ o', H'.get? a = some o' ∧ (steady o = true → o'.cls = o.cls ∧ steady o' = true)) :
    Step cx F μ H (upd μ a mo) H' := by
  have hta : ∀ o, H.get? a = some o → steady o = true → o.cls ≠ .type "tuple" := fun o h => by
    rcases ha with q | ⟨old, q, qq⟩
    · rw [q] at h; cases h
    · obtain ⟨o', h', hc⟩ := R.own_some (.inl ⟨old, q, qq.owned⟩); rw [h] at h'; cases h'; exact hc
  have ht : KeepT H H' := fun b o h hc hs => hk b o h fun e => hta o (e ▸ h) hs hc
  have hc : KeepC H H' := fun b o h => by
    by_cases e : b = a
    · subst e; exact hcls o h
    · exact ⟨o, hk b o h e, fun q => ⟨rfl, q⟩⟩
  have inst_ne : ∀ x c fs, upd μ a mo x = some (.inst c fs) → x ≠ a ∧ μ x = some (.inst c fs) := fun x c fs h => by
    by_cases e : x = a
    · subst e; rw [upd_same] at h; cases h; exact hi.elim
    · exact ⟨e, by rwa [upd_ne e] at h⟩
  have same : ∀ x c fs, μ x = some (.inst c fs) → x ≠ a → H'.get? x = H.get? x := fun x c fs hx e => by
    obtain ⟨ob, h, _⟩ := R.own_some (.inl ⟨_, hx, trivial⟩)
    rw [h]; exact hk _ _ h e
  have dne : ∀ x c fs o d, μ x = some (.inst c fs) → H.get? x = some o → o.dict = some d → d ≠ a := fun x c fs o d hx ho₁ hd e => by
    subst e
    rcases ha with q | ⟨old, q, _⟩
    · obtain ⟨o', h', _⟩ := R.own_some (a := d) (.inr ⟨x, c, fs, o, hx, ho₁, hd⟩); rw [q] at h'; cases h'
    · have := R.dnot x c fs o d hx ho₁ hd; rw [q] at this; cases this
  have own : ∀ b, Own (upd μ a mo) H' b → Own μ H b ∨ H.get? b = none := by
    rintro b (⟨o, h, hw⟩ | ⟨x, c, fs, o, hx, ho', hd⟩)
    · by_cases e : b = a
      · subst e
        rcases ha with q | ⟨old, q, qq⟩
        · exact .inr q
        · exact .inl (.inl ⟨old, q, qq.owned⟩)
      · rw [upd_ne e] at h; exact .inl (.inl ⟨o, h, hw⟩)
    · obtain ⟨e, hx'⟩ := inst_ne x c fs hx
      rw [same x _ _ hx' e] at ho'
      exact .inl (.inr ⟨x, c, fs, o, hx', ho', hd⟩)
  have hbase : cx.h₀.get? a = none := by
    rcases ha with q | ⟨old, q, qq⟩
    · cases hb : cx.h₀.get? a with
      | none => rfl
      | some o => rw [R.base a o hb] at q; cases q
    · exact R.new a (.inl ⟨old, q, qq.owned⟩)
  refine ⟨⟨fun b o h => hk b o (R.base b o h) (fun e => absurd (e ▸ h) (by rw [hbase]; simp)), fun b o h => ?_, fun b h => ?_, fun x c fs o d hx ho' hd => ?_, ?_⟩, fun b o h hn _ => hk b o h fun e => ?_, own, hc, ht⟩
  · by_cases e : b = a
    · subst e; rw [upd_same] at h; cases h; exact ho
    · rw [upd_ne e] at h
      exact ORep.mono R h (fun _ ob hb => hk b ob hb e) (fun c fs ob d od e' hb hd hod => hk d od hod (dne b c fs ob d (e' ▸ h) hb hd)) ht hc.r
  · rcases own b h with q | q
    · exact R.new b q
    · cases hb : cx.h₀.get? b with
      | none => rfl
      | some o => rw [R.base b o hb] at q; cases q
  · obtain ⟨e, hx'⟩ := inst_ne x c fs hx
    rw [same x _ _ hx' e] at ho'
    rw [upd_ne (dne x c fs o d hx' ho' hd)]
    exact R.dnot x c fs o d hx' ho' hd
  · intro x y c c' fs fs' o o' d hx hy ho₁ ho₂ hd hd'
    obtain ⟨e, hx'⟩ := inst_ne x c fs hx
    obtain ⟨e', hy'⟩ := inst_ne y c' fs' hy
    rw [same x _ _ hx' e] at ho₁; rw [same y _ _ hy' e'] at ho₂
    exact R.dsep x y c c' fs fs' o o' d hx' hy' ho₁ ho₂ hd hd'
  · subst e
    rcases ha with q | ⟨old, q, qq⟩
    · rw [q] at h; cases h
    · exact hn (.inl ⟨old, q, qq.owned⟩)

theorem Step.new_list {cx : Cx} {F : Addr → Prop} {μ : Mem} {H : Heap} (R : Rel cx μ H) {vs : List Val} {items : Array Value} (h : VReps cx H vs items.toList) (hl : vs.length ≤ sizeLine) :
    Step cx F μ H (upd μ H.objs.size (.list vs)) (H.push { cls := .type "list", data := .seq items }) := by
  have hk : ∀ b ob, H.get? b = some ob → (H.push { cls := .type "list", data := .seq items }).get? b = some ob := fun b ob e => Heap.get?_push_of_some _ e
  have hn : H.get? H.objs.size = none := by
    cases q : H.get? H.objs.size with
    | none => rfl
    | some o => exact absurd (Heap.lt_size q) (Nat.lt_irrefl _)
  exact Step.put R (fun b ob e _ => hk b ob e) ⟨items, 0, IsL.new _ _, h.mono (KeepT.of hk) (KeepR.of hk), hl⟩ trivial (.inl hn) (fun o e => by rw [hn] at e; cases e)

theorem Rel.fresh {cx : Cx} {μ : Mem} {H : Heap} (R : Rel cx μ H) : μ H.objs.size = none := by
  cases q : μ H.objs.size with
  | none => rfl
  | some o =>
    by_cases hw : owned o
    · obtain ⟨o', h, _⟩ := R.own_some (.inl ⟨o, q, hw⟩); exact absurd (Heap.lt_size h) (Nat.lt_irrefl _)
    · cases o <;> try exact (hw trivial).elim
      obtain ⟨vals, ⟨ob, hb, _⟩, _⟩ := R.rep _ _ q
      exact absurd (Heap.lt_size (R.base _ _ hb)) (Nat.lt_irrefl _)

theorem Rel.some_of {cx : Cx} {μ : Mem} {H : Heap} (R : Rel cx μ H) {a : Addr} {o : MObj} (q : μ a = some o) : ∃ ob, H.get? a = some ob := by
  by_cases hw : owned o
  · obtain ⟨o', h, _⟩ := R.own_some (.inl ⟨o, q, hw⟩); exact ⟨o', h⟩
  · cases o <;> try exact (hw trivial).elim
    obtain ⟨vals, ⟨ob, hb, _⟩, _⟩ := R.rep _ _ q
    exact ⟨ob, R.base _ _ hb⟩
end Mine

-- part MiniD
namespace Mine
open PySem PyProof.Rows

def Same (s s' : Shared) : Prop := s'.gens = s.gens ∧ s'.os = s.os
theorem Same.refl (s : Shared) : Same s s := ⟨rfl, rfl⟩
theorem Same.trans {a b c : Shared} (x : Same a b) (y : Same b c) : Same a c := ⟨y.1.trans x.1, y.2.trans x.2⟩

abbrev F0 : Addr → Prop := fun _ => False

/-- what a step of the model's gives: a value that stands for a small one -/
def Post (cx : Cx) (μ : Mem) (s : Shared) (Q : VQ) (v : Value) (s' : Shared) : Prop :=
  ∃ v' μ', VRep cx s'.heap v' v ∧ Step cx F0 μ s.heap μ' s'.heap ∧ Same s s' ∧ Q v' μ'

abbrev E0 : Value → Shared → Prop := fun _ _ => False

theorem Post.trans {cx : Cx} {μ μ₁ : Mem} {s s₁ s' : Shared} {Q : VQ} {v : Value} (S : Step cx F0 μ s.heap μ₁ s₁.heap) (m : Same s s₁) (h : Post cx μ₁ s₁ Q v s') : Post cx μ s Q v s' :=
  let ⟨v', μ', a, b, c, d⟩ := h; ⟨v', μ', a, S.trans b, m.trans c, d⟩

theorem wp_then {cx : Cx} {A : Around} {μ : Mem} {s : Shared} {t : Sem Value} {Q : VQ} {K : Value → Shared → Prop} (h : wpAny cx.M A t (Post cx μ s Q) E0 s)
    (k : ∀ v s₁ v' μ₁, VRep cx s₁.heap v' v → Step cx F0 μ s.heap μ₁ s₁.heap → Same s s₁ → Q v' μ₁ → K v s₁) : wpAny cx.M A t K E0 s :=
  wpAny_mono h (fun v s₁ ⟨v', μ₁, a, b, c, d⟩ => k v s₁ v' μ₁ a b c d) fun _ _ e => e

section
variable {cx : Cx} {A : Around} {μ : Mem} {s : Shared}

/-- heap as it was, one value -/
theorem post_same {Q : VQ} {v' : Val} {v : Value} {tk : Nat} (R : Rel cx μ s.heap) (hv : VRep cx s.heap v' v) (h : Q v' μ) : Post cx μ s Q v { s with toks := tk } :=
  ⟨v', μ, hv, Step.refl R, ⟨rfl, rfl⟩, h⟩
theorem post_here {Q : VQ} {v' : Val} {v : Value} (R : Rel cx μ s.heap) (hv : VRep cx s.heap v' v) (h : Q v' μ) : Post cx μ s Q v s :=
  ⟨v', μ, hv, Step.refl R, ⟨rfl, rfl⟩, h⟩

theorem szl_eq : szl = sizeLine := by rw [PySem.sizeLine_eq]; rfl

theorem strOk_append {x y : Str} (hx : PyData.strOk x = true) (hy : PyData.strOk y = true) : PyData.strOk (x ++ y) = true := by
  unfold PyData.strOk at *
  show (x.cps ++ y.cps).all _ = true
  rw [Array.all_append, hx, hy]; rfl

theorem VReps.append {H : Heap} : ∀ {vs xs ws ys}, VReps cx H vs xs → VReps cx H ws ys → VReps cx H (vs ++ ws) (xs ++ ys)
  | _, _, _, _, .nil, h => h
  | _, _, _, _, .cons a b, h => .cons a (VReps.append b h)
theorem VReps.len {H : Heap} : ∀ {vs xs} , VReps cx H vs xs → vs.length = xs.length
  | _, _, .nil => rfl
  | _, _, .cons _ h => congrArg (· + 1) (VReps.len h)
theorem VReps.get {H : Heap} : ∀ {vs xs} {i : Nat} {v : Val}, VReps cx H vs xs → vs[i]? = some v → ∃ x, xs[i]? = some x ∧ VRep cx H v x
  | _, _, 0, _, .cons a _, e => by simp at e; subst e; exact ⟨_, rfl, a⟩
  | _ :: vs, _ :: xs, i + 1, v, .cons _ b, e => by
    rw [List.getElem?_cons_succ] at e ⊢
    exact VReps.get (vs := vs) (xs := xs) (i := i) b e

theorem wpBin_sound {op : BOp} {o : Operator} {va vb : Val} {xa xb : Value} {Q : VQ} (ho : binIs op o = true) (R : Rel cx μ s.heap) (ha : VRep cx s.heap va xa) (hb : VRep cx s.heap vb xb)
    (h : wpBin op va vb μ Q) : wpAny cx.M A (binaryOp o xa xb) (Post cx μ s Q) E0 s := by
  unfold wpBin at h
  split at h
  · cases ha; cases hb; cases beq_iff_eq.mp ho
    exact PyProof.Rows.add_int (post_same R (.int _ _) h)
  · cases ha; cases hb; cases beq_iff_eq.mp ho
    exact PyProof.Rows.sub_int (post_same R (.int _ _) h)
  · cases ha; cases hb; cases beq_iff_eq.mp ho
    refine PyProof.Rows.mul_int (post_same R (.int _ _) h.2) ?_
    rcases h.1 with q | q
    · exact IntMulOk.of_left (intBits_le_64 (by unfold small at q; omega) (by unfold small at q; omega))
    · exact IntMulOk.of_right (intBits_le_64 (by unfold small at q; omega) (by unfold small at q; omega))
  · cases ha; cases hb; cases beq_iff_eq.mp ho
    exact PyProof.Rows.floordiv_int h.1.1 (post_same R (.int _ _) h.2) (.inl (PyProof.noPylong_small (by have := h.1.2; unfold smallD at this; omega)))
  · cases ha; cases hb; cases beq_iff_eq.mp ho
    exact PyProof.Rows.mod_int h.1 (post_same R (.int _ _) h.2)
  · cases ha with | str t h1 h2 => cases hb with | str u h3 h4 =>
    cases beq_iff_eq.mp ho
    rename_i x y
    have hl : x.length + y.length ≤ sizeLine := by have := h.1; rw [szl_eq] at this; exact this
    exact SB.add (fun t' k => post_same R (.str _ (strOk_append h1 h3) (by rw [strLen_append]; exact hl)) h.2) hl
  · exact h.elim

/-! equality, by the library's theorem over data -/
mutual
theorem Rd.reads {H : Heap} (R : Rel cx μ H) : ∀ {v d x}, Rd μ v d → VRep cx H v x → ∃ as, Reads H x d as ∧ d.canLay0 = true
  | _, _, _, .none, .none => ⟨_, .none, by simp [PyData.canLay0]⟩
  | _, _, _, .bool b, .bool _ => ⟨_, .bool b, by simp [PyData.canLay0]⟩
  | _, _, _, .int i, .int _ t => ⟨_, .int i t, by simp [PyData.canLay0]⟩
  | _, _, _, .str x, .str t h _ => ⟨_, .str x t, by simp [PyData.canLay0, h]⟩
  | _, _, _, .list hm hd, .ref _ => let ⟨items, n, l, r, _⟩ := R.rep _ _ hm; let ⟨as, r', c⟩ := RdAll.reads R hd r; ⟨_, .list l rfl rfl r', by simp [PyData.canLay0, c]⟩
theorem RdAll.reads {H : Heap} (R : Rel cx μ H) : ∀ {vs ds xs}, RdAll μ vs ds → VReps cx H vs xs → ∃ as, ReadsAll H xs ds as ∧ PyData.canLayAll0 ds = true
  | _, _, _, .nil, .nil => ⟨_, .nil, by simp [PyData.canLayAll0]⟩
  | _, _, _, .cons a b, .cons h1 h2 => let ⟨_, r, c⟩ := Rd.reads R a h1; let ⟨_, r', c'⟩ := RdAll.reads R b h2; ⟨_, .cons r r', by simp [PyData.canLayAll0, c, c']⟩
end

theorem wpEq_data {va vb : Val} {Q : Bool → Prop} (h : wpEq va vb μ Q) :
    (∃ a b es, va = .ref a ∧ vb = .ref b ∧ μ a = some (.sdict es) ∧ μ b = some (.sdict es) ∧ (∀ p ∈ es, flatV p.2 = true) ∧ Q true) ∨
    ∃ d e, Rd μ va d ∧ Rd μ vb e ∧ d.depth ≤ 20 ∧ e.depth ≤ 20 ∧ Q (PyData.eqv d e) := by
  have out : (∃ d e, Rd μ va d ∧ Rd μ vb e ∧ d.depth ≤ 20 ∧ e.depth ≤ 20 ∧ Q (PyData.eqv d e)) →
    (∃ a b es, va = .ref a ∧ vb = .ref b ∧ μ a = some (.sdict es) ∧ μ b = some (.sdict es) ∧ (∀ p ∈ es, flatV p.2 = true) ∧ Q true) ∨
    ∃ d e, Rd μ va d ∧ Rd μ vb e ∧ d.depth ≤ 20 ∧ e.depth ≤ 20 ∧ Q (PyData.eqv d e) := fun h =>
    .inr
    h
  unfold wpEq at h
  split at h
  · exact out ⟨_, _, .int _, .int _, by simp [PyData.depth], by simp [PyData.depth], by simpa [PyData.eqv] using h⟩
  · exact out ⟨_, _, .str _, .str _, by simp [PyData.depth], by simp [PyData.depth], by simpa [PyData.eqv] using h⟩
  · exact out ⟨_, _, .none, .none, by simp [PyData.depth], by simp [PyData.depth], by simpa [PyData.eqv] using h⟩
  · exact out ⟨_, _, .none, .int _, by simp [PyData.depth], by simp [PyData.depth], by simpa [PyData.eqv] using h⟩
  · exact out ⟨_, _, .none, .str _, by simp [PyData.depth], by simp [PyData.depth], by simpa [PyData.eqv] using h⟩
  · exact out ⟨_, _, .int _, .none, by simp [PyData.depth], by simp [PyData.depth], by simpa [PyData.eqv] using h⟩
  · exact out ⟨_, _, .str _, .none, by simp [PyData.depth], by simp [PyData.depth], by simpa [PyData.eqv] using h⟩
  · exact out ⟨_, _, .bool _, .bool _, by simp [PyData.depth], by simp [PyData.depth], by simpa [PyData.eqv] using h⟩
  · rcases h with ⟨es, h1, h2, h3, h4⟩ | h
    · exact .inl ⟨_, _, es, rfl, rfl, h1, h2, h3, h4⟩
    · exact .inr h
  · exact out h

theorem flat_eqAt {A' : Around} {v : Val} {x y : Value} {H : Heap} (hf : flatV v = true) (hx : VRep cx H v x) (hy : VRep cx H v y) : SeqAt.EqAt A' s x y true := by
  cases v <;> simp only [flatV, Bool.false_eq_true] at hf
  · cases hx; cases hy; have := PySem.W.keq_flat (A := A') (s := s) (v := .none) (y := .none) (d := .none) (e := .none) (fun _ => .none) (fun _ => .none); simpa [PyData.eqv] using this
  · rename_i i; cases hx with | int _ t => cases hy with | int _ t' => have := PySem.W.keq_flat (A := A') (s := s) (v := .int i t) (y := .int i t') (d := .int i) (e := .int i) (fun _ => .int _ _) (fun _ => .int _ _); simpa [PyData.eqv] using this
  · rename_i i; cases hx with | str t => cases hy with | str t' => have := PySem.W.keq_flat (A := A') (s := s) (v := .str i t) (y := .str i t') (d := .str i) (e := .str i) (fun _ => .str _ _) (fun _ => .str _ _); simpa [PyData.eqv] using this

theorem hits_same {A' : Around} {H : Heap} {kb : List (Str × Value)} : ∀ {es : List (Str × Val)} {ka : List (Str × Value)}, PairsRep cx H es ka → (∀ p ∈ es, flatV p.2 = true) → (∀ k v, (k, v) ∈ es → ∃ y, valueAt kb k = some y ∧ VRep cx H v y) → PySem.W.KeqHits A' s kb ka true := by
  intro es
  induction es with
  | nil =>
    rintro ka ⟨h1, h2⟩ _ _
    cases ka with
    | nil => exact .nil
    | cons x xs => simp at h1
  | cons e es ih =>
    rintro ka ⟨h1, h2⟩ hf hk
    cases ka with
    | nil => simp at h1
    | cons x xs =>
      simp only [List.map_cons, List.cons.injEq] at h1
      cases h2 with
      | cons h2 h3 =>
        obtain ⟨ek, ev⟩ := e
        obtain ⟨xk, xv⟩ := x
        simp only at h1 h2
        obtain ⟨rfl, h1⟩ := h1
        obtain ⟨y, hy, hr⟩ := hk xk ev (.head _)
        exact .hit (e := true) (b := true) hy (flat_eqAt (hf _ (.head _)) h2 hr) (ih ⟨h1, h3⟩ (fun p hp => hf p (.tail _ hp)) fun k v h => hk k v (.tail _ h))

theorem nodup_valueAt {H : Heap} : ∀ {es : List (Str × Val)} {kb : List (Str × Value)}, PairsRep cx H es kb → (kb.map (·.1)).Nodup → ∀ k v, (k, v) ∈ es → ∃ y, valueAt kb k = some y ∧ VRep cx H v y := by
  intro es
  induction es with
  | nil => intro kb _ _ k v h; exact nomatch h
  | cons e es ih =>
    rintro kb ⟨h1, h2⟩ hn k v h
    cases kb with
    | nil => simp at h1
    | cons x xs =>
      simp only [List.map_cons, List.cons.injEq] at h1
      cases h2 with
      | cons h2 h3 =>
        obtain ⟨ek, ev⟩ := e
        obtain ⟨xk, xv⟩ := x
        simp only at h1 h2
        obtain ⟨rfl, h1⟩ := h1
        simp only [List.map_cons, List.nodup_cons] at hn
        rcases List.mem_cons.mp h with h | h
        · cases h; exact ⟨xv, by simp [valueAt], h2⟩
        · obtain ⟨y, hy, hr⟩ := ih ⟨h1, h3⟩ hn.2 k v h
          have hne : xk ≠ k := by
            rintro rfl
            apply hn.1
            rw [h1]
            exact List.mem_map.mpr ⟨_, h, rfl⟩
          exact ⟨y, by rw [← hy]; simp [valueAt, hne], hr⟩

theorem dictEq_sound {a b : Addr} {es : List (Str × Val)} (R : Rel cx μ s.heap) (ha : μ a = some (.sdict es)) (hb : μ b = some (.sdict es)) (hf : ∀ p ∈ es, flatV p.2 = true) :
    ∃ ka kb, s.heap.DictOf (strKind cx.prog cx.w) a ka ∧ s.heap.DictOf (strKind cx.prog cx.w) b kb ∧ (a == sysModules) = false ∧ (b == sysModules) = false ∧ ka.length = kb.length ∧ PySem.W.KeqHits A.in1 s kb ka true := by
  obtain ⟨a1, _, _, ka, a2, a3⟩ := R.rep _ _ ha
  obtain ⟨b1, _, _, kb, b2, b3⟩ := R.rep _ _ hb
  have hn := b2
  obtain ⟨_, _, _, _, _, _, _, _, hn⟩ := hn
  refine ⟨ka, kb, a2, b2, a1, b1, ?_, hits_same a3 hf (nodup_valueAt b3 hn)⟩
  have e1 := congrArg List.length a3.1
  have e2 := congrArg List.length b3.1
  simp only [List.length_map] at e1 e2
  omega

theorem wpEq_sound {va vb : Val} {xa xb : Value} {Q : Bool → Prop} {K : Value → Shared → Prop} (hu : A.units + 100 < cLine) (R : Rel cx μ s.heap) (ha : VRep cx s.heap va xa) (hb : VRep cx s.heap vb xb)
    (h : wpEq va vb μ Q) (k : ∀ b, Q b → K (.bool b) s) : wpAny cx.M A (compareOp .Eq xa xb) K E0 s := by
  rcases wpEq_data h with ⟨a, b, es, rfl, rfl, e1, e2, hf, hq⟩ | ⟨d, e, h1, h2, h3, h4, hq⟩
  · cases ha; cases hb
    obtain ⟨ka, kb, d1, d2, n1, n2, hl, hits⟩ := dictEq_sound (A := A) R e1 e2 hf
    exact PySem.W.keq_eq n1 n2 d1 d2 (by omega) (fun _ => hits) (by simp only [hl, beq_self_eq_true, Bool.and_self]; exact k _ hq)
  obtain ⟨_, r1, c1⟩ := h1.reads R ha
  obtain ⟨_, r2, c2⟩ := h2.reads R hb
  exact SeqAt.compareEq_reads r1 r2 c1 c2 (by have : min d.depth e.depth ≤ d.depth := Nat.min_le_left _ _; omega) (k _ hq)
theorem wpNe_sound {va vb : Val} {xa xb : Value} {Q : Bool → Prop} {K : Value → Shared → Prop} (hu : A.units + 100 < cLine) (R : Rel cx μ s.heap) (ha : VRep cx s.heap va xa) (hb : VRep cx s.heap vb xb)
    (h : wpEq va vb μ Q) (k : ∀ b, Q b → K (.bool (!b)) s) : wpAny cx.M A (compareOp .NotEq xa xb) K E0 s := by
  rcases wpEq_data h with ⟨a, b, es, rfl, rfl, e1, e2, hf, hq⟩ | ⟨d, e, h1, h2, h3, h4, hq⟩
  · cases ha; cases hb
    obtain ⟨ka, kb, d1, d2, n1, n2, hl, hits⟩ := dictEq_sound (A := A) R e1 e2 hf
    exact PySem.W.keq_ne n1 n2 d1 d2 (by omega) (fun _ => hits) (by simp only [hl, beq_self_eq_true, Bool.and_self]; exact k _ hq)
  obtain ⟨_, r1, c1⟩ := h1.reads R ha
  obtain ⟨_, r2, c2⟩ := h2.reads R hb
  exact SeqAt.compareNe_reads r1 r2 c1 c2 (by have : min d.depth e.depth ≤ d.depth := Nat.min_le_left _ _; omega) (k _ hq)

/-! in -/
theorem lookup_rep {κ : Type} [DecidableEq κ] {H : Heap} : ∀ {es : List (κ × Val)} {xs : List (κ × Value)}, PairsRep cx H es xs → ∀ k : κ, (match look es k with
    | some v => ∃ x, valueAt xs k = some x ∧ VRep cx H v x
    | none => valueAt xs k = none) := by
  intro es
  induction es with
  | nil =>
    rintro xs ⟨h1, h2⟩ k
    cases xs with
    | nil => rfl
    | cons x xs => simp at h1
  | cons e es ih =>
    rintro xs ⟨h1, h2⟩ k
    cases xs with
    | nil => simp at h1
    | cons x xs =>
      simp only [List.map_cons, List.cons.injEq] at h1
      cases h2 with
      | cons h2 h3 =>
        obtain ⟨ek, ev⟩ := e
        obtain ⟨xk, xv⟩ := x
        simp only at h1 h2
        obtain ⟨rfl, h1⟩ := h1
        by_cases hk : xk = k
        · subst hk
          simp only [look, if_true]
          exact ⟨xv, by simp [valueAt], h2⟩
        · simp only [look, hk, if_false]
          have := ih ⟨h1, h3⟩ k
          have e : valueAt ((xk, xv) :: xs) k = valueAt xs k := by simp [valueAt, hk]
          rw [e]; exact this
theorem lookup_isSome {κ : Type} [DecidableEq κ] {H : Heap} {es : List (κ × Val)} {xs : List (κ × Value)} (h : PairsRep cx H es xs) (k : κ) : (valueAt xs k).isSome = (look es k).isSome := by
  have := lookup_rep h k
  split at this
  · rename_i v e; obtain ⟨x, e', _⟩ := this; rw [e, e']; rfl
  · rename_i e; rw [e, this]; rfl

theorem wpIn_sound {v c : Val} {xv xc : Value} {Q : Bool → Prop} {K : Value → Shared → Prop} (hu : A.units + 100 < cLine) (R : Rel cx μ s.heap) (ha : VRep cx s.heap v xv) (hb : VRep cx s.heap c xc)
    (h : wpIn v c μ Q) (k : ∀ b tk, Q b → K (.bool b) { s with toks := tk }) : wpAny cx.M A (compareOp .In xv xc) K E0 s := by
  unfold wpIn at h
  split at h
  · rename_i a
    cases hb
    split at h
    · rename_i es e
      obtain ⟨h1, h2, h3, xs, hd, hp⟩ := R.rep _ _ e
      cases ha <;> try exact h.elim
      exact wpAny_in_of (strKind_is _ _ _ _) h1 hd.mapOf (k _ _ (by rw [lookup_isSome hp]; exact h))
    · rename_i vs e
      obtain ⟨d, ds, h1, h2, h3, h4, hq⟩ := h
      obtain ⟨items, n, l, r, z⟩ := R.rep _ _ e
      obtain ⟨_, r1, c1⟩ := h1.reads R ha
      obtain ⟨_, r2, c2⟩ := h2.reads R r
      refine SeqAt.in_list_reads (.list l rfl rfl r2) r1 c2 c1 ?_ (k _ s.toks hq)
      have : min (PyData.depthAll ds) d.depth ≤ d.depth := Nat.min_le_right _ _
      omega
    · exact h.elim
  · exact h.elim

theorem wpNotIn_sound {v c : Val} {xv xc : Value} {Q : Bool → Prop} {K : Value → Shared → Prop} (hu : A.units + 100 < cLine) (R : Rel cx μ s.heap) (ha : VRep cx s.heap v xv) (hb : VRep cx s.heap c xc)
    (h : wpIn v c μ Q) (k : ∀ b tk, Q b → K (.bool (!b)) { s with toks := tk }) : wpAny cx.M A (compareOp .NotIn xv xc) K E0 s := by
  unfold wpIn at h
  split at h
  · rename_i a
    cases hb
    split at h
    · rename_i es e
      obtain ⟨h1, h2, h3, xs, hd, hp⟩ := R.rep _ _ e
      cases ha <;> try exact h.elim
      exact wpAny_notIn_of (strKind_is _ _ _ _) h1 hd.mapOf (k _ _ (by rw [lookup_isSome hp]; exact h))
    · rename_i vs e
      obtain ⟨d, ds, h1, h2, h3, h4, hq⟩ := h
      obtain ⟨items, n, l, r, z⟩ := R.rep _ _ e
      obtain ⟨_, r1, c1⟩ := h1.reads R ha
      obtain ⟨_, r2, c2⟩ := h2.reads R r
      refine SeqAt.notIn_list_reads (.list l rfl rfl r2) r1 c2 c1 ?_ (k _ s.toks hq)
      have : min (PyData.depthAll ds) d.depth ≤ d.depth := Nat.min_le_right _ _
      omega
    · exact h.elim
  · exact h.elim

theorem wpCmp_sound {op : COp} {o : CmpOp} {va vb : Val} {xa xb : Value} {Q : Bool → Prop} {K : Value → Shared → Prop} (ho : cmpIs op o = true) (hu : A.units + 100 < cLine) (R : Rel cx μ s.heap) (ha : VRep cx s.heap va xa) (hb : VRep cx s.heap vb xb)
    (h : wpCmp op va vb μ Q) (k : ∀ b tk, Q b → K (.bool b) { s with toks := tk }) : wpAny cx.M A (compareOp o xa xb) K E0 s := by
  have noneIs : isNone va = (xa == Value.none) := by cases ha <;> rfl
  have ho := beq_iff_eq.mp ho
  subst ho
  cases op <;> dsimp only [wpCmp] at h
  · exact wpEq_sound hu R ha hb h fun b q => k b s.toks q
  · exact wpNe_sound hu R ha hb h fun b q => k (!b) s.toks q
  · split at h
    · cases ha; cases hb; exact PyProof.Rows.lt_int (k _ s.toks h)
    · exact h.elim
  · split at h
    · cases ha; cases hb; exact P.le_int (k _ s.toks h)
    · exact h.elim
  · split at h
    · cases ha; cases hb; exact PyProof.Rows.gt_int (k _ s.toks h)
    · exact h.elim
  · split at h
    · cases ha; cases hb; exact P.ge_int (k _ s.toks h)
    · exact h.elim
  · split at h
    · cases hb; exact is_none (by rw [← noneIs]; exact k _ s.toks h)
    · exact h.elim
  · split at h
    · cases hb; exact isNot_none (by rw [← noneIs]; exact k _ s.toks h)
    · exact h.elim
  · exact wpIn_sound hu R ha hb h k
  · exact wpNotIn_sound hu R ha hb h fun b tk q => k (!b) tk q
end
end Mine

-- part MiniE
namespace Mine
open PySem PyProof.Rows

def noSlice : PySem.Expr → Bool
  | .Slice .. => false
  | _ => true
theorem subscripted_plain {slice : PySem.Expr} (h : noSlice slice = true) (o i : Value) : subscripted slice false o i = operate [o, i] (getItem o i) := by
  cases slice <;> first | rfl | simp [noSlice] at h

section
variable {cx : Cx} {A : Around} {μ : Mem} {s : Shared}

theorem seqIndex_pos {k : Int} {n : Nat} (h0 : 0 ≤ k) (h1 : k < n) : seqIndex? k n = some k.toNat := by
  have hk : ¬ k < 0 := by omega
  have hb : (decide (0 ≤ k) && decide (k < (n : Int))) = true := by simp only [Bool.and_eq_true, decide_eq_true_eq]; omega
  unfold seqIndex?
  simp only [hk, if_false]
  rw [if_pos hb]
theorem pyGet_seqIndex {α : Type} {vs : List α} {k : Int} {v : α} (h : pyGet vs k = some v) : ∃ j, seqIndex? k vs.length = some j ∧ vs[j]? = some v := by
  unfold pyGet at h
  split at h
  · rename_i h0
    refine ⟨k.toNat, ?_, h⟩
    have hl : k.toNat < vs.length := by
      rcases Nat.lt_or_ge k.toNat vs.length with q | q
      · exact q
      · rw [List.getElem?_eq_none q] at h; cases h
    exact seqIndex_pos h0 (by omega)
  · split at h
    · rename_i h0 h1
      refine ⟨_, seqIndex_neg (by omega) h1, ?_⟩
      rw [show k + (vs.length : Int) = (vs.length : Int) + k by omega]
      exact h
    · cases h

theorem pyGet_bounds {α : Type} {vs : List α} {k : Int} {v : α} (h : pyGet vs k = some v) : -(vs.length : Int) ≤ k ∧ k < vs.length := by
  obtain ⟨j, h1, h2⟩ := pyGet_seqIndex h
  have hl : j < vs.length := by
    rcases Nat.lt_or_ge j vs.length with q | q
    · exact q
    · rw [List.getElem?_eq_none q] at h2; cases h2
  unfold pyGet at h
  split at h
  · have : k.toNat < vs.length := by
      rcases Nat.lt_or_ge k.toNat vs.length with q | q
      · exact q
      · rw [List.getElem?_eq_none q] at h; cases h
    omega
  · split at h
    · omega
    · cases h

theorem wpIdx_sound {value slice : PySem.Expr} {o i : Val} {xo xi : Value} {Q : VQ} (hns : noSlice slice = true) (hu : A.units + 100 < cLine) (R : Rel cx μ s.heap) (ho : VRep cx s.heap o xo) (hi : VRep cx s.heap i xi)
    (h : wpIdx o i μ Q) : wpAny cx.M A (subscriptTail value slice xo xi) (Post cx μ s Q) E0 s := by
  unfold wpIdx at h
  split at h
  · cases ho
    split at h
    · rename_i a vs e
      split at h
      · cases hi
        rename_i k t
        obtain ⟨v, hg, hq⟩ := h
        obtain ⟨items, n, l, r, z⟩ := R.rep _ _ e
        have hlen := r.len
        simp only [Array.length_toList] at hlen
        obtain ⟨b1, b2⟩ := pyGet_bounds hg
        have hz : sizeLine = 16777216 := sizeLine_eq
        unfold pyGet at hg
        split at hg
        · obtain ⟨x, e1, e2⟩ := r.get hg
          refine tail_any ⟨_, l, rfl⟩ slot_list_getitem.lookup (wpAny_getItem_list l.isList (by assumption) (by omega) ?_ (post_here R e2 hq)) (subscripted_plain hns _ _)
          rw [← Array.getElem?_toList]; exact e1
        · skip
          obtain ⟨x, e1, e2⟩ := r.get hg
          refine tail_any ⟨_, l, rfl⟩ slot_list_getitem.lookup (wpAny_getItem_list_neg l.isList (by omega) (by omega) (by omega) ?_ (post_here R e2 hq)) (subscripted_plain hns _ _)
          rw [← Array.getElem?_toList, show k + (items.size : Int) = (vs.length : Int) + k by omega]; exact e1
      · exact h.elim
    · rename_i a ns e
      split at h
      · cases hi
        rename_i k t
        obtain ⟨v, hg, h0, hq⟩ := h
        obtain ⟨vals, hl, hin, hz⟩ := R.rep _ _ e
        have hl' : s.heap.IsList _ vals.toArray := let ⟨ob, hb, r⟩ := hl; ⟨ob, R.base _ _ hb, r⟩
        have b := pyGet_bounds hg
        have hz' : sizeLine = 16777216 := sizeLine_eq
        unfold pyGet at hg
        rw [if_pos h0] at hg
        obtain ⟨t', ht'⟩ := hin.get _ _ hg
        exact tail_any hl'.typeIs slot_list_getitem.lookup (wpAny_getItem_list hl' h0 (by omega) (by simpa using ht') (post_here R (.int _ _) hq)) (subscripted_plain hns _ _)
      · exact h.elim
    · rename_i a es e
      split at h
      · cases hi
        obtain ⟨v, hg, hq⟩ := h
        obtain ⟨h1, h2, h3, xs, hd, hp⟩ := R.rep _ _ e
        have := lookup_rep hp ‹_›
        rw [hg] at this
        obtain ⟨x, e1, e2⟩ := this
        exact tail_any hd.typeIs slot_dict_getitem.lookup (wpAny_getItem_of (strKind_is _ _ _ _) hd.mapOf e1 (post_same R e2 hq)) (subscripted_plain hns _ _)
      · exact h.elim
    · exact h.elim
  · rename_i x
    cases ho with | str t h1 h2 =>
    split at h
    · cases hi
      rename_i k u
      obtain ⟨⟨a1, a2, a3⟩, hq⟩ := h
      obtain ⟨c, hc⟩ : ∃ c, x.cps[k.toNat]? = some c := ⟨x.cps[k.toNat]'(by unfold Str.length at a2; omega), Array.getElem?_eq_getElem _⟩
      have hidx : seqIndex? k x.length = some k.toNat := seqIndex_pos a1 a2
      refine tail_any (T := "str") (typeIs_str s x t) PySem.F.slot_str_getitem.lookup (P.getItem_str (c := c) ?_ ?_ (post_same R (.str _ ?_ ?_) (hq _ ?_))) (subscripted_plain hns _ _)
      · simp only [Bool.or_eq_false_iff, decide_eq_false_iff_not]; omega
      · rw [hidx]; exact hc
      · unfold PyData.strOk at h1 ⊢
        have := (Array.all_eq_true.mp h1) k.toNat (by unfold Str.length at a2; omega)
        have e : x.cps[k.toNat]'(by unfold Str.length at a2; omega) = c := by
          rw [Array.getElem?_eq_getElem (by unfold Str.length at a2; omega)] at hc; exact Option.some.inj hc
        rw [e] at this
        simpa using this
      · show 1 ≤ sizeLine; decide
      · rfl
    · exact h.elim
  · exact h.elim

/-! stores -/
def PostU (cx : Cx) (μ : Mem) (s : Shared) (Q : Mem → Prop) (s' : Shared) : Prop := ∃ μ', Step cx F0 μ s.heap μ' s'.heap ∧ Same s s' ∧ Q μ'

theorem VReps.set {H : Heap} : ∀ {vs xs} {i : Nat} {v : Val} {x : Value}, VReps cx H vs xs → VRep cx H v x → VReps cx H (vs.set i v) (xs.set i x)
  | _, _, _, _, _, .nil, _ => by simp; exact .nil
  | _, _, 0, _, _, .cons a b, h => .cons h b
  | _, _, i + 1, _, _, .cons a b, h => .cons a (VReps.set b h)

/-- a list that is changed -/
theorem Step.set_list {F : Addr → Prop} {H : Heap} (R : Rel cx μ H) {a : Addr} {vs vs' : List Val} {items : Array Value} {n : Nat} {f : Array Value → Array Value} (e : μ a = some (.list vs)) (l : IsL H a items n)
    (h : VReps cx H vs' (f items).toList) (hl : vs'.length ≤ sizeLine) : Step cx F μ H (upd μ a (.list vs')) (H.update a (Obj.mapSeq f)) := by
  have hk : ∀ b ob, H.get? b = some ob → b ≠ a → (H.update a (Obj.mapSeq f)).get? b = some ob := fun b ob hb hne => (Heap.get?_update_other H _ (Ne.symm hne)).trans hb
  have hl' := l.update f
  refine Step.put R hk ⟨_, _, hl', h.mono (fun b o hb hc _ => hk b o hb fun q => ?_) (fun b o C hb hc hst => ?_), hl⟩ trivial (.inr ⟨_, e, trivial⟩) (fun o ho => ⟨_, hl', fun _ => ⟨by rw [l] at ho; cases ho; rfl, rfl⟩⟩)
  · subst q; rw [l] at hb; cases hb; simp at hc
  · by_cases q : b = a
    · subst q; rw [l] at hb; cases hb; simp at hc
    · exact ⟨o, hk b o hb q, hc, hst⟩

theorem SameBut.step {F : Addr → Prop} {H H' : Heap} (R : Rel cx μ H) {a : Addr} {old mo : MObj} (e : μ a = some old) (hi : notInst old) (hi' : notInst mo) (hs : Heap.SameBut a H H') (hcls : ∀ o, H.get? a = some o → ∃ o', H'.get? a = some o' ∧ (steady o = true → o'.cls = o.cls ∧ steady o' = true))
    (ho : ORep cx H' a mo) : Step cx F μ H (upd μ a mo) H' :=
  Step.put R (fun b ob hb hne => (hs.2 b hne).trans hb) ho hi' (.inr ⟨_, e, hi⟩) hcls

theorem rep_sameBut {H H' : Heap} {a : Addr} {o : Obj} (hs : Heap.SameBut a H H') (ha : H.get? a = some o) (hc : o.cls ≠ .type "tuple") (hcls : steady o = false) {v x} (h : VReps cx H v x) : VReps cx H' v x :=
  h.mono (fun b ob hb hc' _ => (hs.2 b fun q => hc (by subst q; rw [ha] at hb; cases hb; exact hc')).trans hb) (fun b ob C hb hC hst => by
    by_cases q : b = a
    · subst q; rw [ha] at hb; cases hb; rw [hcls] at hst; cases hst
    · exact ⟨ob, (hs.2 b q).trans hb, hC, hst⟩)

theorem pairs_dset {κ : Type} [DecidableEq κ] {H : Heap} {es : List (κ × Val)} {xs : List (κ × Value)} (h : PairsRep cx H es xs) {k : κ} {v : Val} {x : Value} (hv : VRep cx H v x) : PairsRep cx H (dset es k v) (stored xs k x) := by
  obtain ⟨h1, h2⟩ := h
  have hany : (xs.any fun kv => decide (kv.1 = k)) = es.any fun p => decide (p.1 = k) := by
    have : ∀ {β : Type} (l : List (κ × β)), (l.any fun kv => decide (kv.1 = k)) = (l.map (·.1)).any fun y => decide (y = k) := fun l => by rw [List.any_map]; rfl
    rw [this, this, h1]
  unfold dset stored
  rw [hany]
  split
  · refine ⟨?_, ?_⟩
    · rw [List.map_map, List.map_map]
      have e1 : ∀ {β : Type} (w : β) (l : List (κ × β)), l.map ((·.1) ∘ fun p : κ × β => if p.1 = k then (p.1, w) else p) = l.map (·.1) := fun w l => List.map_congr_left fun p _ => by simp only [Function.comp]; split <;> rfl
      rw [e1, e1, h1]
    · rename_i hyp
      clear hany hyp
      induction es generalizing xs with
      | nil => cases xs with
        | nil => exact .nil
        | cons _ _ => simp at h1
      | cons e es ih => cases xs with
        | nil => simp at h1
        | cons y ys =>
          simp only [List.map_cons, List.cons.injEq] at h1
          cases h2 with
          | cons a b =>
            have := ih h1.2 b
            simp only [List.map_cons]
            refine .cons ?_ this
            rw [h1.1]
            split
            · exact hv
            · exact a
  · exact ⟨by simp [h1], by rw [List.map_append, List.map_append]; exact h2.append (.cons hv .nil)⟩

theorem dset_length {κ : Type} [DecidableEq κ] (es : List (κ × Val)) (k : κ) (v : Val) : (dset es k v).length ≤ es.length + 1 := by
  unfold dset; split <;> simp
theorem dset_mem {κ : Type} [DecidableEq κ] {es : List (κ × Val)} {k : κ} {v : Val} {p : κ × Val} (h : p ∈ dset es k v) : p.1 = k ∨ ∃ q ∈ es, q.1 = p.1 := by
  unfold dset at h
  split at h
  · obtain ⟨q, hq, e⟩ := List.mem_map.mp h
    split at e
    · subst e; exact .inl (by assumption)
    · subst e; exact .inr ⟨q, hq, rfl⟩
  · rcases List.mem_append.mp h with q | q
    · exact .inr ⟨p, q, rfl⟩
    · simp at q; subst q; exact .inl rfl
theorem PairsRep.len {κ : Type} {H : Heap} {es : List (κ × Val)} {xs : List (κ × Value)} (h : PairsRep cx H es xs) : xs.length = es.length := by
  have := congrArg List.length h.1; simpa using this

theorem Step.dset {F : Addr → Prop} {H H' : Heap} (R : Rel cx μ H) {a : Addr} {es : List (Str × Val)} {xs : List (Str × Value)} {k : Str} {v : Val} {xv : Value} (e : μ a = some (.sdict es)) (hd : H.DictOf (strKind cx.prog cx.w) a xs) (hd' : H'.DictOf (strKind cx.prog cx.w) a (stored xs k xv))
    (hs : Heap.SameBut a H H') (hp : PairsRep cx H es xs) (hv : VRep cx H v xv) (hok : PyData.strOk k = true ∧ k.length ≤ sizeLine) (hl : es.length < sizeLine) : Step cx F μ H (upd μ a (.sdict (dset es k v))) H' := by
  obtain ⟨h1, h2, h3, _⟩ := R.rep _ _ e
  obtain ⟨o₁, _, _, g1, g2, gd, _⟩ := hd
  have hrep : PairsRep cx H (Mine.dset es k v) (stored xs k xv) := pairs_dset hp hv
  refine SameBut.step (mo := .sdict (Mine.dset es k v)) R e trivial trivial hs ?_ ⟨h1, ?_, Nat.le_trans (dset_length es k v) hl, _, hd', hrep.1, rep_sameBut hs g1 (by rw [g2.1]; simp) (by unfold steady; rw [gd]) hrep.2⟩
  · obtain ⟨o₂, _, _, g3, _⟩ := hd'
    exact fun o q => ⟨o₂, g3, fun hst => by rw [g1] at q; cases q; unfold steady at hst; rw [gd] at hst; cases hst⟩
  · intro p hp'
    rcases dset_mem hp' with q | ⟨q, q1, q2⟩
    · rw [q]; exact hok
    · rw [← q2]; exact h2 q q1

theorem wpSetIdx_sound {o i v : Val} {xo xi xv : Value} {Q : Mem → Prop} (hu : A.units + 100 < cLine) (R : Rel cx μ s.heap) (ho : VRep cx s.heap o xo) (hi : VRep cx s.heap i xi) (hv : VRep cx s.heap v xv)
    (h : wpSetIdx o i v μ Q) : wpAny cx.M A (setItem xo xi xv) (fun _ => PostU cx μ s Q) E0 s := by
  have hz : sizeLine = 16777216 := sizeLine_eq
  unfold wpSetIdx at h
  split at h
  · cases ho
    split at h
    · rename_i a vs e
      split at h
      · cases hi
        rename_i k t
        obtain ⟨vs', hg, hq⟩ := h
        obtain ⟨items, n, l, r, z⟩ := R.rep _ _ e
        have hlen := r.len
        simp only [Array.length_toList] at hlen
        unfold setAt at hg
        split at hg
        · rename_i hb
          cases hg
          refine W.ki_setAt l hb.1 (by omega) (by omega) ⟨_, Step.set_list R e l ?_ (by rw [List.length_set]; exact z), ⟨rfl, rfl⟩, hq⟩
          rw [Array.toList_setIfInBounds]
          exact r.set hv
        · cases hg
      · exact h.elim
    · rename_i a es e
      split at h
      · cases hi with | str t k1 k2 =>
        obtain ⟨hl, hq⟩ := h
        obtain ⟨h1, h2, h3, xs, hd, hp⟩ := R.rep _ _ e
        rw [szl_eq] at hl
        exact wpAny_setItem_pairs (strKind_is _ _ _ _) hd (fun h' hd' hs => ⟨_, Step.dset R e hd hd' hs hp hv ⟨k1, k2⟩ hl, ⟨rfl, rfl⟩, hq⟩) (by rw [hp.len]; omega)
      · exact h.elim
    · exact h.elim
  · exact h.elim
end
end Mine

-- part MiniF
namespace Mine
open PySem PyProof.Rows

def listIdOf : LM → Option String
  | .append => some "list.append"

section
variable {cx : Cx} {A : Around} {μ : Mem} {s : Shared}

theorem getMethod_list {a : Addr} {items : Array Value} {n : Nat} {k : LM} {id : String} {pl : Sem Bool} {Q : Value × List Value → Shared → Prop} (l : IsL s.heap a items n) (hk : listIdOf k = some id)
    (h : Q (.builtin id, [.ref a]) s) : wpAny cx.M A (getMethod (.ref a) (Str.ofString (lmName k)) pl) Q E0 s := by
  have hd : ∀ b, Value.ref a = .ref b → ∃ ob, s.heap.get? b = some ob ∧ ob.dict = none := fun b e => by cases e; exact ⟨_, l, rfl⟩
  cases k <;> first | (cases hk; done) | cases hk
  · exact getMethod_builtin ⟨_, l, rfl⟩ PySem.F.plainAttrs_list PySem.F.slot_list_append PySem.F.type_list_append hd h

theorem VReps.one {H : Heap} {v : Val} {xs : List Value} (h : VReps cx H [v] xs) : ∃ x, xs = [x] ∧ VRep cx H v x := by
  cases h with
  | cons a b => cases b; exact ⟨_, rfl, a⟩
theorem VReps.two {H : Heap} {v w : Val} {xs : List Value} (h : VReps cx H [v, w] xs) : ∃ x y, xs = [x, y] ∧ VRep cx H v x ∧ VRep cx H w y := by
  cases h with
  | cons a b => cases b with
    | cons c d => cases d; exact ⟨_, _, rfl, a, c⟩

theorem listMeth_sound {k : LM} {id : String} {a : Addr} {vs args : List Val} {xs : List Value} {Q : VQ} (hk : listIdOf k = some id) (R : Rel cx μ s.heap) (e : μ a = some (.list vs)) (hr : VReps cx s.heap args xs)
    (h : wpListMeth k a vs args μ Q) : wpAny cx.M A (call (.builtin id) (.ref a :: xs)) (Post cx μ s Q) E0 s := by
  obtain ⟨items, n, l, r, z⟩ := R.rep _ _ e
  have hlen := r.len
  simp only [Array.length_toList] at hlen
  have hz : sizeLine = 16777216 := sizeLine_eq
  unfold wpListMeth at h
  split at h <;> try (simp only [listIdOf, Option.some.injEq] at hk)
  · subst hk
    obtain ⟨_, rfl, hv⟩ := hr.one
    obtain ⟨h1, hq⟩ := h
    rw [szl_eq] at h1
    refine call_meets PySem.F.slot_list_append ⟨_, l, rfl⟩ PySem.F.entry_list_append (PySem.F.args_list_append_2 _ _) (list_append a items n _ (by omega)) ⟨l, ?_⟩
    refine ⟨_, _, .none, Step.set_list R e l ?_ ?_, ⟨rfl, rfl⟩, hq⟩
    · rw [Array.toList_push]; exact r.append (.cons hv .nil)
    · simp; omega
  · exact h.elim
end
end Mine

-- part MiniG
namespace Mine
open PySem PyProof.Rows

def biVal : BI → Value
  | .len => .builtin "len" | .max => .builtin "max" | .min => .builtin "min" | .list => .type "list"
  | .dict => .type "dict"

section
variable {cx : Cx} {A : Around} {μ : Mem} {s : Shared}

theorem Step.new_list' {F : Addr → Prop} {H H' : Heap} {n : Nat} (R : Rel cx μ H) {vs : List Val} {items : Array Value} (h : VReps cx H vs items.toList) (hl : vs.length ≤ sizeLine) (hk : ∀ b ob, H.get? b = some ob → H'.get? b = some ob)
    (hn : IsL H' H.objs.size items n) : Step cx F μ H (upd μ H.objs.size (.list vs)) H' := by
  have hn' : H.get? H.objs.size = none := by
    cases q : H.get? H.objs.size with
    | none => rfl
    | some o => exact absurd (Heap.lt_size q) (Nat.lt_irrefl _)
  exact Step.put R (fun b ob e _ => hk b ob e) ⟨items, n, hn, h.mono (KeepT.of hk) (KeepR.of hk), hl⟩ trivial (.inl hn') (fun o e => by rw [hn'] at e; cases e)

theorem Step.new_sdict {F : Addr → Prop} {H H' : Heap} (R : Rel cx μ H) (hbig : sysModules < H.objs.size) {es : List (Str × Val)} {xs : List (Str × Value)} (h : PairsRep cx H es xs) (hok : ∀ p ∈ es, PyData.strOk p.1 = true ∧ p.1.length ≤ sizeLine) (hl : es.length ≤ sizeLine)
    (hk : ∀ b ob, H.get? b = some ob → H'.get? b = some ob) (hd : H'.DictOf (strKind cx.prog cx.w) H.objs.size xs) : Step cx F μ H (upd μ H.objs.size (.sdict es)) H' := by
  have hn' : H.get? H.objs.size = none := by
    cases q : H.get? H.objs.size with
    | none => rfl
    | some o => exact absurd (Heap.lt_size q) (Nat.lt_irrefl _)
  refine Step.put R (fun b ob e _ => hk b ob e) ⟨?_, hok, hl, xs, hd, h.1, h.2.mono (KeepT.of hk) (KeepR.of hk)⟩ trivial (.inl hn') (fun o e => by rw [hn'] at e; cases e)
  simp only [beq_eq_false_iff_ne, ne_eq]
  exact fun e => absurd hbig (by rw [e]; exact Nat.lt_irrefl _)

/-- the calls of built-in functions and types -/
def BIok : BI → Bool
  | _ => true

theorem wpBI_sound {b : BI} {args : List Val} {xs : List Value} {Q : VQ} (hb : BIok b = true) (hh : A.handled = none) (hbig : sysModules < s.heap.objs.size) (R : Rel cx μ s.heap) (hr : VReps cx s.heap args xs) (h : wpBI b args μ Q) :
    wpAny cx.M A (call (biVal b) xs) (Post cx μ s Q) E0 s := by
  have hz : sizeLine = 16777216 := sizeLine_eq
  unfold wpBI at h
  split at h <;> first | (cases hb; done) | clear hb
  · obtain ⟨_, rfl, hv⟩ := hr.one
    cases hv with | str t k1 k2 =>
    exact PyProof.Rows.len_str (by omega) (post_same R (.int _ _) h)
  · obtain ⟨_, rfl, hv⟩ := hr.one
    cases hv
    split at h
    · rename_i vs e
      obtain ⟨items, n, l, r, z⟩ := R.rep _ _ e
      have hlen := r.len
      simp only [Array.length_toList] at hlen
      refine Calls.call_len_list l.isList (by omega) (post_same R (.int _ _) ?_)
      rw [← hlen]; exact h
    · rename_i ns e
      obtain ⟨vals, hl, hin, hz'⟩ := R.rep _ _ e
      have hl' : s.heap.IsList _ vals.toArray := let ⟨ob, hb, r⟩ := hl; ⟨ob, R.base _ _ hb, r⟩
      have hlen := hin.length
      refine Calls.call_len_list hl' (by simp; omega) (post_same R (.int _ _) ?_)
      simp only [List.size_toArray]
      rw [hlen]; exact h
    · exact h.elim
  · obtain ⟨_, _, rfl, hv, hw⟩ := hr.two
    cases hv; cases hw
    refine max_two_ints hh fun h' tk hk => ?_
    split
    · rename_i hc
      rw [if_pos (by omega)] at h
      exact ⟨_, _, .int _ _, Step.grow R hk, ⟨rfl, rfl⟩, h⟩
    · rename_i hc
      rw [if_neg (by omega)] at h
      exact ⟨_, _, .int _ _, Step.grow R hk, ⟨rfl, rfl⟩, h⟩
  · obtain ⟨_, _, rfl, hv, hw⟩ := hr.two
    cases hv; cases hw
    refine min_two_ints hh fun h' tk hk => ?_
    split
    · rename_i hc
      rw [if_pos (by omega)] at h
      exact ⟨_, _, .int _ _, Step.grow R hk, ⟨rfl, rfl⟩, h⟩
    · rename_i hc
      rw [if_neg (by omega)] at h
      exact ⟨_, _, .int _ _, Step.grow R hk, ⟨rfl, rfl⟩, h⟩
  · obtain ⟨_, rfl, hv⟩ := hr.one
    cases hv
    split at h
    · rename_i vs e
      obtain ⟨items, n, l, r, z⟩ := R.rep _ _ e
      have hlen := r.len
      simp only [Array.length_toList] at hlen
      exact call_list_seq _ (.inl rfl) l rfl rfl (fun h' c' hk hn => ⟨_, _, .ref _, Step.new_list' R r z hk hn, ⟨rfl, rfl⟩, h _ R.fresh⟩) (by omega)
    · exact h.elim
  · obtain ⟨_, rfl, hv⟩ := hr.one
    cases hv
    split at h
    · rename_i es e
      obtain ⟨h1, h2, h3, ys, hd, hp⟩ := R.rep _ _ e
      refine kt_call_dict h1 hd (by rw [hp.len]; omega) fun h' hd' hs => ?_
      refine ⟨_, _, .ref _, Step.new_sdict R hbig hp h2 h3 (fun b ob e => ?_) hd', ⟨rfl, rfl⟩, h _ R.fresh⟩
      exact (hs.2 b fun q => absurd (Heap.lt_size e) (by rw [q]; exact Nat.lt_irrefl _)).trans (Heap.get?_push_of_some _ e)
    · exact h.elim
  · exact h.elim
end
end Mine

-- part MiniH
namespace Mine
open PySem PyProof.Rows

theorem any_some {α : Type} {o : Option α} {p : α → Bool} (h : o.any p = true) : ∃ x, o = some x ∧ p x = true := by
  cases o with
  | none => cases h
  | some x => exact ⟨x, rfl, h⟩

section
variable {sc : PySem.Scope} {tbl : Tbl} {e : PySem.Expr}

theorem vName_eq {x} (h : vName e = some x) : ∃ p, e = .Name x p := by
  cases e <;> first | (cases h; done) | (cases h; exact ⟨_, rfl⟩)
theorem vConst_eq {x} (h : vConst e = some x) : ∃ k p, e = .Constant x k p := by
  cases e <;> first | (cases h; done) | (cases h; exact ⟨_, _, rfl⟩)
theorem vBin_eq {x} (h : vBin e = some x) : ∃ p, e = .BinOp x.1 x.2.1 x.2.2 p := by
  cases e <;> first | (cases h; done) | (cases h; exact ⟨_, rfl⟩)
theorem vUn_eq {x} (h : vUn e = some x) : ∃ p, e = .UnaryOp x.1 x.2 p := by
  cases e <;> first | (cases h; done) | (cases h; exact ⟨_, rfl⟩)
theorem vCmp_eq {x} (h : vCmp e = some x) : ∃ p, e = .Compare x.1 x.2.1 x.2.2 p := by
  cases e <;> first | (cases h; done) | (cases h; exact ⟨_, rfl⟩)
theorem vBool_eq {x} (h : vBool e = some x) : ∃ p, e = .BoolOp x.1 x.2 p := by
  cases e <;> first | (cases h; done) | (cases h; exact ⟨_, rfl⟩)
theorem vSub_eq {x} (h : vSub e = some x) : ∃ p, e = .Subscript x.1 x.2 p := by
  cases e <;> first | (cases h; done) | (cases h; exact ⟨_, rfl⟩)
theorem vSlice_eq {x} (h : vSlice e = some x) : ∃ p, e = .Slice x.1 x.2.1 x.2.2 p := by
  cases e <;> first | (cases h; done) | (cases h; exact ⟨_, rfl⟩)
theorem vAttr_eq {x} (h : vAttr e = some x) : e = .Attribute x.1 x.2.1 x.2.2 := by
  cases e <;> first | (cases h; done) | (cases h; rfl)
theorem vCall_eq {x} (h : vCall e = some x) : e = .Call x.1 x.2.1 x.2.2.1 x.2.2.2 := by
  cases e <;> first | (cases h; done) | (cases h; rfl)
theorem vList_eq {x} (h : vList e = some x) : ∃ p, e = .List x p := by
  cases e <;> first | (cases h; done) | (cases h; exact ⟨_, rfl⟩)
theorem vDict_eq {x} (h : vDict e = some x) : ∃ p, e = .Dict x.1 x.2 p := by
  cases e <;> first | (cases h; done) | (cases h; exact ⟨_, rfl⟩)
theorem one_eq {α : Type} {l : List α} {x : α} (h : one l = some x) : l = [x] := by
  rcases l with _ | ⟨y, _ | ⟨z, l⟩⟩ <;> first | (cases h; done) | (cases h; rfl)
theorem two_eq {α : Type} {l : List α} {x : α × α} (h : two l = some x) : l = [x.1, x.2] := by
  rcases l with _ | ⟨y, _ | ⟨z, _ | ⟨u, l⟩⟩⟩ <;> first | (cases h; done) | (cases h; rfl)
theorem nCall_eq {x} (h : nCall e = some x) : ∃ p q, e = .Call (.Name x.1 p) x.2 [] q ∧ x.2.length ≤ 20 := by
  unfold nCall at h
  cases hv : vCall e with
  | none => rw [hv] at h; cases h
  | some y =>
    rw [hv] at h
    simp only [Option.bind_some] at h
    split at h
    · rename_i hc
      rw [Bool.and_eq_true, List.isEmpty_iff, decide_eq_true_eq] at hc
      cases hn : vName y.1 with
      | none => rw [hn] at h; cases h
      | some id =>
        rw [hn] at h
        cases h
        obtain ⟨p, hp⟩ := vName_eq hn
        exact ⟨p, y.2.2.2, by rw [vCall_eq hv, hp, hc.1], hc.2⟩
    · cases h

theorem chk_lit {v} (h : chkE sc tbl (.lit v) e = true) : ∃ c k p, e = .Constant c k p ∧ litIs v c = true := by
  rw [chkE] at h
  obtain ⟨x, h1, h2⟩ := any_some h
  obtain ⟨k, p, rfl⟩ := vConst_eq h1
  exact ⟨_, _, _, rfl, h2⟩
theorem chk_var {i} (h : chkE sc tbl (.var i) e = true) : ∃ id p, e = .Name id p ∧ tbl.lookup id = some i ∧ (id == Str.ofString "__debug__") = false ∧ (id == Str.ofString "__classdict__") = false := by
  rw [chkE] at h
  have g' := any_some h; clear h; obtain ⟨x, h1, h⟩ := g'
  obtain ⟨p, rfl⟩ := vName_eq h1
  rw [Bool.and_eq_true, Bool.and_eq_true, beq_iff_eq, Bool.not_eq_true', Bool.not_eq_true'] at h
  exact ⟨_, _, rfl, h.1.1, h.1.2, h.2⟩
theorem chk_bin {op a b} (h : chkE sc tbl (.bin op a b) e = true) : ∃ l o r p, e = .BinOp l o r p ∧ binIs op o = true ∧ chkE sc tbl a l = true ∧ chkE sc tbl b r = true := by
  rw [chkE] at h
  have g' := any_some h; clear h; obtain ⟨x, h1, h⟩ := g'
  obtain ⟨p, rfl⟩ := vBin_eq h1
  rw [Bool.and_eq_true, Bool.and_eq_true] at h
  exact ⟨_, _, _, _, rfl, h.1.1, h.1.2, h.2⟩
theorem chk_neg {a} (h : chkE sc tbl (.neg a) e = true) : ∃ x p, e = .UnaryOp .USub x p ∧ chkE sc tbl a x = true := by
  rw [chkE] at h
  have g' := any_some h; clear h; obtain ⟨x, h1, h⟩ := g'
  obtain ⟨p, rfl⟩ := vUn_eq h1
  rw [Bool.and_eq_true, beq_iff_eq] at h
  exact ⟨_, _, by rw [h.1], h.2⟩
theorem chk_not {a} (h : chkE sc tbl (.not a) e = true) : ∃ x p, e = .UnaryOp .Not x p ∧ chkE sc tbl a x = true := by
  rw [chkE] at h
  have g' := any_some h; clear h; obtain ⟨x, h1, h⟩ := g'
  obtain ⟨p, rfl⟩ := vUn_eq h1
  rw [Bool.and_eq_true, beq_iff_eq] at h
  exact ⟨_, _, by rw [h.1], h.2⟩
theorem chk_cmp {op a b} (h : chkE sc tbl (.cmp op a b) e = true) : ∃ l o r p, e = .Compare l [o] [r] p ∧ cmpIs op o = true ∧ chkE sc tbl a l = true ∧ chkE sc tbl b r = true := by
  rw [chkE] at h
  have g' := any_some h; clear h; obtain ⟨x, h1, h⟩ := g'
  have g' := any_some h; clear h; obtain ⟨o, h2, h⟩ := g'
  have g' := any_some h; clear h; obtain ⟨r, h3, h⟩ := g'
  obtain ⟨p, rfl⟩ := vCmp_eq h1
  rw [Bool.and_eq_true, Bool.and_eq_true] at h
  exact ⟨_, _, _, _, by rw [one_eq h2, one_eq h3], h.1.1, h.1.2, h.2⟩
theorem chk_bool {b es} (h : chkE sc tbl (.bool b es) e = true) : ∃ vs p, e = .BoolOp (if b then .And else .Or) vs p ∧ 2 ≤ es.length ∧ chkEs sc tbl es vs = true := by
  rw [chkE] at h
  have g' := any_some h; clear h; obtain ⟨x, h1, h⟩ := g'
  obtain ⟨p, rfl⟩ := vBool_eq h1
  rw [Bool.and_eq_true, Bool.and_eq_true, beq_iff_eq, decide_eq_true_eq] at h
  exact ⟨_, _, by rw [h.1.1], h.1.2, h.2⟩
theorem chk_idx {a i} (h : chkE sc tbl (.idx a i) e = true) : ∃ v s p, e = .Subscript v s p ∧ chkE sc tbl a v = true ∧ chkE sc tbl i s = true := by
  rw [chkE] at h
  have g' := any_some h; clear h; obtain ⟨x, h1, h⟩ := g'
  obtain ⟨p, rfl⟩ := vSub_eq h1
  rw [Bool.and_eq_true] at h
  exact ⟨_, _, _, rfl, h.1, h.2⟩
theorem chk_call {f args} (h : chkE sc tbl (.call f args) e = true) : ∃ p as q, e = .Call (.Name f p) as [] q ∧ isGlob sc f = true ∧ as.length ≤ 20 ∧ chkEs sc tbl args as = true := by
  rw [chkE] at h
  have g' := any_some h; clear h; obtain ⟨x, h1, h⟩ := g'
  obtain ⟨p, q, rfl, hl⟩ := nCall_eq h1
  rw [Bool.and_eq_true, Bool.and_eq_true, beq_iff_eq] at h
  exact ⟨_, _, _, by rw [h.1.1], h.1.2, hl, h.2⟩
theorem chk_meth {o m k args} (h : chkE sc tbl (.meth o m k args) e = true) : ∃ v ap as p, e = .Call (.Attribute v m ap) as [] p ∧ ownOr k m = true ∧ (ap.endLine == p.line) = true ∧ notSuper v = true ∧ as.length ≤ 20 ∧ chkE sc tbl o v = true ∧ chkEs sc tbl args as = true := by
  rw [chkE] at h
  have g' := any_some h; clear h; obtain ⟨y, h1, h⟩ := g'
  have g' := any_some h; clear h; obtain ⟨x, h2, h⟩ := g'
  have e1 := vCall_eq h1
  have e2 := vAttr_eq h2
  rw [Bool.and_eq_true, Bool.and_eq_true, Bool.and_eq_true, Bool.and_eq_true, Bool.and_eq_true, Bool.and_eq_true, Bool.and_eq_true, List.isEmpty_iff, decide_eq_true_eq] at h
  obtain ⟨⟨⟨⟨⟨⟨⟨g1, g2⟩, g3⟩, g4⟩, g5⟩, g6⟩, g7⟩, g8⟩ := h
  exact ⟨_, _, _, _, by rw [e1, e2, g1, beq_iff_eq.mp g2], g3, g4, g5, g6, g7, g8⟩
theorem chk_list {es} (h : chkE sc tbl (.list es) e = true) : ∃ xs p, e = .List xs p ∧ chkEs sc tbl es xs = true := by
  rw [chkE] at h
  have g' := any_some h; clear h; obtain ⟨x, h1, h⟩ := g'
  obtain ⟨p, rfl⟩ := vList_eq h1
  exact ⟨_, _, rfl, h⟩
theorem chk_bi {b args} (hb : BIok b = true) (h : chkE sc tbl (.bi b args) e = true) : ∃ p as q, e = .Call (.Name (Str.ofString (biName b)) p) as [] q ∧ isGlob sc (Str.ofString (biName b)) = true ∧ as.length ≤ 20 ∧ chkEs sc tbl args as = true := by
  rw [chkE] at h
  have g' := any_some h; clear h; obtain ⟨as, h1, h⟩ := g'
  have h2 : ((nCall e).bind fun x => if x.1 == Str.ofString (biName b) && isGlob sc x.1 then some x.2 else none) = some as := by
    cases b <;> first | (cases hb; done) | exact h1
  cases hn : nCall e with
  | none => rw [hn] at h2; cases h2
  | some x =>
    rw [hn, Option.bind_some] at h2
    obtain ⟨p, q, rfl, hl⟩ := nCall_eq hn
    split at h2
    · rename_i hc
      rw [Bool.and_eq_true, beq_iff_eq] at hc
      cases h2
      have g2 := hc.2
      rw [hc.1] at g2
      exact ⟨_, _, _, by rw [hc.1], g2, hl, h⟩
    · cases h2
theorem chk_isinst {a t} (h : chkE sc tbl (.isinst a t) e = true) : ∃ p x q r, e = .Call (.Name (Str.ofString "isinstance") p) [x, .Name (tyName t) q] [] r ∧ isGlob sc (Str.ofString "isinstance") = true ∧ isGlob sc (tyName t) = true ∧ chkE sc tbl a x = true := by
  rw [chkE] at h
  have g' := any_some h; clear h; obtain ⟨x, h1, h⟩ := g'
  obtain ⟨p, q, rfl, hl⟩ := nCall_eq h1
  rw [Bool.and_eq_true, Bool.and_eq_true, beq_iff_eq] at h
  obtain ⟨⟨g1, g2⟩, h⟩ := h
  have g' := any_some h; clear h; obtain ⟨y, h2, h⟩ := g'
  have g' := any_some h; clear h; obtain ⟨tn, h3, h⟩ := g'
  rw [Bool.and_eq_true, Bool.and_eq_true, beq_iff_eq] at h
  obtain ⟨⟨g3, g4⟩, g5⟩ := h
  obtain ⟨r, hr⟩ := vName_eq h3
  rw [g1] at g2
  rw [g3] at g4 hr
  exact ⟨_, _, _, _, by rw [g1, two_eq h2, hr], g2, g4, g5⟩
theorem chk_slice {a l h'} (h : chkE sc tbl (.slice a l h') e = true) : ∃ v lo hi q p, e = .Subscript v (.Slice lo hi none q) p ∧ chkE sc tbl a v = true ∧ (match lo with | none => l = .lit .none | some x => chkE sc tbl l x = true) ∧ (match hi with | none => h' = .lit .none | some x => chkE sc tbl h' x = true) := by
  rw [chkE] at h
  have g' := any_some h; clear h; obtain ⟨x, h1, h⟩ := g'
  have g' := any_some h; clear h; obtain ⟨y, h2, h⟩ := g'
  obtain ⟨p, rfl⟩ := vSub_eq h1
  obtain ⟨q, hq⟩ := vSlice_eq h2
  rw [Bool.and_eq_true, Bool.and_eq_true, Bool.and_eq_true, Option.isNone_iff_eq_none] at h
  obtain ⟨⟨⟨g1, g2⟩, g3⟩, g4⟩ := h
  have lit : ∀ m : ME, isNoneLit m = true → m = .lit .none := fun m hm => by
    cases m <;> first | (cases hm; done) | skip
    rename_i v
    cases v <;> first | rfl | (cases hm; done)
  refine ⟨_, y.1, y.2.1, q, _, by rw [hq, g2], g1, ?_, ?_⟩
  · cases hy : y.1 with
    | none => rw [hy] at g3; exact lit _ g3
    | some z => rw [hy] at g3; exact g3
  · cases hy : y.2.1 with
    | none => rw [hy] at g4; exact lit _ g4
    | some z => rw [hy] at g4; exact g4
theorem chk_dict {tk kvs} (h : chkE sc tbl (.dict tk kvs) e = true) : ∃ ks vs p, e = .Dict ks vs p ∧ ks.length = vs.length ∧ ks.length ≤ 15 ∧ chkEs sc tbl kvs ((ks.zip vs).flatMap fun p => p.1.toList ++ [p.2]) = true ∧ kvs.length = 2 * ks.length := by
  rw [chkE] at h
  have g' := any_some h; clear h; obtain ⟨x, h1, h⟩ := g'
  obtain ⟨p, rfl⟩ := vDict_eq h1
  rw [Bool.and_eq_true, Bool.and_eq_true, Bool.and_eq_true, Bool.and_eq_true, decide_eq_true_eq, decide_eq_true_eq, decide_eq_true_eq] at h
  exact ⟨_, _, _, rfl, h.1.1.1.1, h.1.1.1.2, h.1.1.2, h.1.2⟩
theorem chkEs_cons {m : ME} {ms xs} (h : chkEs sc tbl (m :: ms) xs = true) : ∃ x r, xs = x :: r ∧ chkE sc tbl m x = true ∧ chkEs sc tbl ms r = true := by
  cases xs with
  | nil => cases h
  | cons x xs => rw [chkEs, Bool.and_eq_true] at h; exact ⟨_, _, rfl, h.1, h.2⟩
theorem chkEs_nil {xs} (h : chkEs sc tbl [] xs = true) : xs = [] := by
  rw [chkEs] at h
  exact List.isEmpty_iff.mp h
theorem chkEs_length : ∀ {ms : List ME} {xs}, chkEs sc tbl ms xs = true → ms.length = xs.length
  | [], xs, h => by rw [chkEs_nil h]; rfl
  | m :: ms, xs, h => by obtain ⟨x, r, rfl, _, h2⟩ := chkEs_cons h; simp [chkEs_length h2]

theorem chk_biCall {b as} (h : chkE sc tbl (.bi b as) e = true) : ∃ f xs p, e = .Call f xs [] p := by
  rw [chkE] at h
  obtain ⟨x, h1, _⟩ := any_some h
  cases hn : nCall e with
  | some y => obtain ⟨_, _, rfl, _⟩ := nCall_eq hn; exact ⟨_, _, _, rfl⟩
  | none => cases b <;> (unfold biArgs at h1; rw [hn] at h1; cases h1)
def notStar : PySem.Expr → Bool
  | .Starred .. => false
  | _ => true
def odd : PySem.Expr → Bool
  | .Starred .. => true
  | .Slice .. => true
  | .Set .. => true
  | _ => false
theorem chk_odd {m : ME} (h : chkE sc tbl m e = true) : odd e = false := by
  cases m with
  | lit v => obtain ⟨_, _, _, rfl, _⟩ := chk_lit h; rfl
  | var i => obtain ⟨_, _, rfl, _⟩ := chk_var h; rfl
  | bin op a b => obtain ⟨_, _, _, _, rfl, _⟩ := chk_bin h; rfl
  | neg a => obtain ⟨_, _, rfl, _⟩ := chk_neg h; rfl
  | not a => obtain ⟨_, _, rfl, _⟩ := chk_not h; rfl
  | cmp op a b => obtain ⟨_, _, _, _, rfl, _⟩ := chk_cmp h; rfl
  | bool b es => obtain ⟨_, _, rfl, _⟩ := chk_bool h; rfl
  | idx a i => obtain ⟨_, _, _, rfl, _⟩ := chk_idx h; rfl
  | slice a l k => obtain ⟨_, _, _, _, _, rfl, _⟩ := chk_slice h; rfl
  | call f as => obtain ⟨_, _, _, rfl, _⟩ := chk_call h; rfl
  | meth o m k as => obtain ⟨_, _, _, _, rfl, _⟩ := chk_meth h; rfl
  | bi b as => obtain ⟨_, _, _, rfl⟩ := chk_biCall h; rfl
  | isinst a t => obtain ⟨_, _, _, _, rfl, _⟩ := chk_isinst h; rfl
  | list es => obtain ⟨_, _, rfl, _⟩ := chk_list h; rfl
  | dict tk kvs => obtain ⟨_, _, _, rfl, _⟩ := chk_dict h; rfl
theorem chk_notStar {m : ME} (h : chkE sc tbl m e = true) : notStar e = true := by
  have := chk_odd h
  cases e <;> first | rfl | (cases this; done)
theorem chk_noSlice {m : ME} (h : chkE sc tbl m e = true) : noSlice e = true := by
  have := chk_odd h
  cases e <;> first | rfl | (cases this; done)
theorem chk_noSet {m : ME} {op : CmpOp} (h : chkE sc tbl m e = true) : behindInMarks op e = false := by
  have := chk_odd h
  cases e <;> first | rfl | (cases this; done)
theorem starEach_plain {ev : PySem.Env} : ∀ {ms : List ME} {xs : List PySem.Expr}, chkEs sc tbl ms xs = true → starEach xs ev = xs.map fun x => (false, eval x ev)
  | [], xs, h => by rw [chkEs_nil h]; rfl
  | m :: ms, xs, h => by
    obtain ⟨x, r, rfl, h1, h2⟩ := chkEs_cons h
    have := starEach_plain (ev := ev) h2
    have hx := chk_notStar h1
    rw [List.map_cons, ← this]
    cases x <;> first | rfl | (cases hx; done)
theorem backTo_plain {ev : PySem.Env} {pos : Pos} (xs : List PySem.Expr) : backTo pos (xs.map fun x => (false, eval x ev)) = xs.map fun x => (false, eval x ev) := by
  unfold backTo
  rw [List.map_map]
  exact List.map_congr_left fun x _ => by simp
end
end Mine

-- part MiniI
namespace Mine
open PySem PyProof.Rows

/-- the built-in names that the texts use -/
def bootOf (n : Str) : Option Value :=
  if n = Str.ofString "len" then some (.builtin "len") else if n = Str.ofString "max" then some (.builtin "max") else if n = Str.ofString "min" then some (.builtin "min")
  else if n = Str.ofString "int" then some (.type "int") else if n = Str.ofString "str" then some (.type "str") else if n = Str.ofString "list" then some (.type "list")
  else if n = Str.ofString "tuple" then some (.type "tuple") else if n = Str.ofString "dict" then some (.type "dict") else if n = Str.ofString "sorted" then some (.builtin "sorted")
  else if n = Str.ofString "all" then some (.builtin "all") else if n = Str.ofString "set" then some (.type "set") else if n = Str.ofString "range" then some (.type "range")
  else if n = Str.ofString "reversed" then some (.type "reversed") else if n = Str.ofString "isinstance" then some (.builtin "isinstance") else if n = Str.ofString "bool" then some (.type "bool")
  else if n = Str.ofString "ValueError" then some (.type "ValueError") else none

def FnOK (cx : Cx) (a : Addr) (fd : FD) : Prop := ∃ o f body, cx.h₀.get? a = some o ∧ o.data = .func f ∧ f.body = .stmts body ∧ f.globals = mainGlobals ∧ f.builtins = builtinsNs ∧ f.closure = [] ∧ f.defaults = .none ∧ f.kwdefaults = .none ∧
  cx.h₀.CodeRec f.code f.qualname ∧ chkF fd f.params body f.scope = true


structure CxOK (cx : Cx) : Prop where
  nolimit : cx.h₀.NoLimit
  gns : cx.h₀.Ns mainGlobals cx.mg
  bns : cx.h₀.Ns builtinsNs cx.mb
  boot : ∀ n v, bootOf n = some v → cx.mg n = none ∧ cx.mb n = some v
  fns : ∀ f fd, cx.P.fn (.fn f) = some fd → ∃ a, cx.mg f = some (.ref a) ∧ FnOK cx a fd

theorem CxOK.big {cx : Cx} (ok : CxOK cx) : sysModules < cx.h₀.objs.size := by
  obtain ⟨mc, h, _⟩ := ok.nolimit
  have := h.lt
  exact Nat.lt_trans (by decide) this
theorem Rel.size {cx : Cx} {μ : Mem} {H : Heap} (ok : CxOK cx) (R : Rel cx μ H) : sysModules < H.objs.size := by
  obtain ⟨mc, ⟨o, _, _, h, _⟩, _⟩ := ok.nolimit
  exact Nat.lt_trans (by decide) (Heap.lt_size (R.base _ _ h))

def Fs (ev : PySem.Env) (a : Addr) : Prop := a = ev.locals ∨ ∃ x, ev.cells.lookup x = some a

structure FR (cx : Cx) (ev : PySem.Env) (tbl : Tbl) (env : Env) (μ : Mem) (H : Heap) : Prop where
  kind : ev.scope.kind = .function
  glob : ev.globals = mainGlobals
  bi : ev.builtins = builtinsNs
  ns : ∃ m, H.Ns ev.locals m ∧ ∀ x i v, tbl.lookup x = some i → ev.kindOf x = some .local → env[i]? = some (some v) → ∃ y, m x = some y ∧ VRep cx H v y
  dom : ∀ x i, tbl.lookup x = some i → ev.kindOf x = some .local ∨ ((ev.kindOf x = some .cell ∨ ev.kindOf x = some .free) ∧ ∃ c u, ev.cells.lookup x = some c ∧ H.IsCell c u ∧ ∀ v, env[i]? = some (some v) → ∃ y, u = some y ∧ VRep cx H v y)
  apart : ∀ a, Fs ev a → ¬ Own μ H a ∧ cx.h₀.get? a = none ∧ ∃ o, H.get? a = some o ∧ steady o = false
  cinj : ∀ x y c, ev.cells.lookup x = some c → ev.cells.lookup y = some c → x = y
  lnc : ∀ x, ev.cells.lookup x ≠ some ev.locals
  tinj : ∀ x y i, tbl.lookup x = some i → tbl.lookup y = some i → x = y

theorem FR.step {cx : Cx} {ev : PySem.Env} {tbl : Tbl} {env : Env} {μ μ' : Mem} {H H' : Heap} (F : FR cx ev tbl env μ H) (S : Step cx F0 μ H μ' H') : FR cx ev tbl env μ' H' := by
  have keep : ∀ a o, Fs ev a → H.get? a = some o → H'.get? a = some o := fun a o hf h => S.keep a o h (F.apart a hf).1 (fun q => q)
  refine ⟨F.kind, F.glob, F.bi, ?_, fun x i h => ?_, fun a hf => ?_, F.cinj, F.lnc, F.tinj⟩
  · obtain ⟨m, ⟨o, es, ep, ho, r⟩, hv⟩ := F.ns
    exact ⟨m, ⟨o, es, ep, keep _ _ (.inl rfl) ho, r⟩, fun x i v h1 h2 h3 => let ⟨y, a, b⟩ := hv x i v h1 h2 h3; ⟨y, a, S.v b⟩⟩
  · rcases F.dom x i h with q | ⟨q, c, u, h1, ⟨o, ho, hd⟩, h3⟩
    · exact .inl q
    · exact .inr ⟨q, c, u, h1, ⟨o, keep _ _ (.inr ⟨x, h1⟩) ho, hd⟩, fun v hv => let ⟨y, a, b⟩ := h3 v hv; ⟨y, a, S.v b⟩⟩
  · obtain ⟨h1, h2, o, ho, hc⟩ := F.apart a hf
    refine ⟨fun q => ?_, h2, o, keep _ _ hf ho, hc⟩
    rcases S.own a q with q | q
    · exact h1 q
    · rw [ho] at q; cases q

section
variable {cx : Cx} {A : Around} {μ : Mem} {s : Shared} {ev : PySem.Env} {tbl : Tbl} {env : Env}

theorem load_var {id : Str} {p : Pos} {i : Nat} {v : Val} {K : Value → Shared → Prop} (F : FR cx ev tbl env μ s.heap) (h1 : tbl.lookup id = some i) (hd : (id == Str.ofString "__debug__") = false) (hc : (id == Str.ofString "__classdict__") = false)
    (hv : env[i]? = some (some v)) (k : ∀ y, VRep cx s.heap v y → K y s) : wpAny cx.M A (eval (.Name id p) ev) K E0 s := by
  refine wpAny_Name ?_ hd
  rcases F.dom id i h1 with q | ⟨q, c, u, h2, h3, h4⟩
  · obtain ⟨m, hm, hr⟩ := F.ns
    obtain ⟨y, e1, e2⟩ := hr id i v h1 q hv
    exact wpAny_loadName_local F.kind q hm e1 (k y e2)
  · obtain ⟨y, rfl, e2⟩ := h4 v hv
    rcases q with q | q
    · exact wpAny_loadName_cell F.kind q h2 h3 (k y e2)
    · exact wpAny_loadName_free F.kind q h2 h3 (k y e2) hc

theorem Step.of_frame {F : Addr → Prop} {a : Addr} {H H' : Heap} (R : Rel cx μ H) (ha : F a) (hno : ¬ Own μ H a) (hb : cx.h₀.get? a = none) (ho : ∃ o, H.get? a = some o ∧ steady o = false) (hs : Heap.SameBut a H H') (he : ∃ o, H'.get? a = some o) : Step cx F μ H μ H' := by
  obtain ⟨o₀, ho₀, hst⟩ := ho
  have hk : ∀ b ob, H.get? b = some ob → b ≠ a → H'.get? b = some ob := fun b ob h hne => (hs.2 b hne).trans h
  have ht : KeepT H H' := fun b o h _ hs' => hk b o h fun e => by subst e; rw [ho₀] at h; cases h; rw [hst] at hs'; cases hs'
  have hc : KeepC H H' := fun b o h => by
    by_cases e : b = a
    · subst e
      obtain ⟨o', ho'⟩ := he
      exact ⟨o', ho', fun q => by rw [ho₀] at h; cases h; rw [hst] at q; cases q⟩
    · exact ⟨o, hk b o h e, fun q => ⟨rfl, q⟩⟩
  have S := Step.of_mono (F := fun b => b = a) R (fun b ob h hne => hk b ob h hne) (fun b e => by subst e; exact ⟨hno, hb⟩) ht hc
  exact S.weaken fun x e => by subst e; exact ha

/-- a name is bound -/
theorem store_var {id : Str} {i : Nat} {v : Val} {y : Value} {K : Unit → Shared → Prop} (F : FR cx ev tbl env μ s.heap) (R : Rel cx μ s.heap) (h1 : tbl.lookup id = some i) (hnf : ev.kindOf id ≠ some .free) (hv : VRep cx s.heap v y)
    (k : ∀ s', FR cx ev tbl (env.set i (some v)) μ s'.heap → Step cx (Fs ev) μ s.heap μ s'.heap → Same s s' → K () s') : wpAny cx.M A (storeName ev id y) K E0 s := by
  have upd_other : ∀ x j w, x ≠ id → tbl.lookup x = some j → (env.set i (some v))[j]? = some (some w) → env[j]? = some (some w) := fun x j w hne hx hw => by
    have hij : i ≠ j := fun e => hne (F.tinj x id j hx (e ▸ h1))
    rwa [List.getElem?_set_ne hij] at hw
  have upd_here : ∀ w, (env.set i (some v))[i]? = some (some w) → w = v := fun w hw => by
    rw [List.getElem?_set_self'] at hw
    cases h : env[i]? <;> rw [h] at hw <;> simp at hw
    exact hw.symm
  rcases F.dom id i h1 with q | ⟨q, c, u, h2, h3, h4⟩
  · obtain ⟨m, hm, hr⟩ := F.ns
    obtain ⟨a1, a2, a3⟩ := F.apart ev.locals (.inl rfl)
    refine wpAny_storeName_local q hm (fun h' hn hs => ?_) (by rw [F.kind]; rfl)
    have S : Step cx (Fs ev) μ s.heap μ h' := Step.of_frame R (.inl rfl) a1 a2 a3 hs (let ⟨o, _, _, ho, _⟩ := hn; ⟨o, ho⟩)
    refine k _ ⟨F.kind, F.glob, F.bi, ⟨_, hn, fun x j w hx hk hw => ?_⟩, fun x j hx => ?_, fun a ha => ?_, F.cinj, F.lnc, F.tinj⟩ S ⟨rfl, rfl⟩
    · by_cases e : x = id
      · subst e
        rw [h1] at hx; cases hx
        rw [upd_here w hw]
        exact ⟨y, by simp, S.v hv⟩
      · obtain ⟨z, e1, e2⟩ := hr x j w hx hk (upd_other x j w e hx hw)
        exact ⟨z, by simp [e, e1], S.v e2⟩
    · rcases F.dom x j hx with q' | ⟨q', c, u, h2, h3, h4⟩
      · exact .inl q'
      · have hne : c ≠ ev.locals := fun e => F.lnc x (e ▸ h2)
        refine .inr ⟨q', c, u, h2, h3.sameBut hs hne, fun w hw => ?_⟩
        have hxid : x ≠ id := fun e => by
          subst e
          rcases q' with q' | q' <;> rw [q] at q' <;> cases q'
        obtain ⟨z, e1, e2⟩ := h4 w (upd_other x j w hxid hx hw)
        exact ⟨z, e1, S.v e2⟩
    · obtain ⟨b1, b2, o, b3, b4⟩ := F.apart a ha
      refine ⟨fun ho => ?_, b2, ?_⟩
      · rcases S.own a ho with h | h
        · exact b1 h
        · rw [b3] at h; cases h
      · by_cases e : a = ev.locals
        · subst e
          obtain ⟨o', es, ep, g1, g2, _⟩ := hn
          exact ⟨o', g1, by unfold steady; rw [g2]⟩
        · exact ⟨o, (hs.2 a e).trans b3, b4⟩
  · have q : ev.kindOf id = some .cell := q.resolve_right hnf
    obtain ⟨a1, a2, a3⟩ := F.apart c (.inr ⟨id, h2⟩)
    refine wpAny_storeName_cell F.kind q h2 h3 (fun h' hn hs => ?_)
    have S : Step cx (Fs ev) μ s.heap μ h' := Step.of_frame R (.inr ⟨id, h2⟩) a1 a2 a3 hs (let ⟨o, ho, _⟩ := hn; ⟨o, ho⟩)
    refine k _ ⟨F.kind, F.glob, F.bi, ?_, fun x j hx => ?_, fun a ha => ?_, F.cinj, F.lnc, F.tinj⟩ S ⟨rfl, rfl⟩
    · obtain ⟨m, hm, hr⟩ := F.ns
      refine ⟨m, hm.sameBut hs (fun e => F.lnc id (e ▸ h2)), fun x j w hx hk hw => ?_⟩
      have hxid : x ≠ id := fun e => by subst e; rw [q] at hk; cases hk
      obtain ⟨z, e1, e2⟩ := hr x j w hx hk (upd_other x j w hxid hx hw)
      exact ⟨z, e1, S.v e2⟩
    · by_cases e : x = id
      · subst e
        rw [h1] at hx; cases hx
        exact .inr ⟨.inl q, c, some y, h2, hn, fun w hw => ⟨y, rfl, by rw [upd_here w hw]; exact S.v hv⟩⟩
      · rcases F.dom x j hx with q' | ⟨q', c', u', g2, g3, g4⟩
        · exact .inl q'
        · have hne : c' ≠ c := fun e' => e (F.cinj x id c (e' ▸ g2) h2)
          refine .inr ⟨q', c', u', g2, g3.sameBut hs hne, fun w hw => ?_⟩
          obtain ⟨z, e1, e2⟩ := g4 w (upd_other x j w e hx hw)
          exact ⟨z, e1, S.v e2⟩
    · obtain ⟨b1, b2, o, b3, b4⟩ := F.apart a ha
      refine ⟨fun ho => ?_, b2, ?_⟩
      · rcases S.own a ho with h | h
        · exact b1 h
        · rw [b3] at h; cases h
      · by_cases e : a = c
        · subst e
          obtain ⟨o', g1, g2⟩ := hn
          exact ⟨o', g1, by unfold steady; rw [g2]⟩
        · exact ⟨o, (hs.2 a e).trans b3, b4⟩

theorem isGlob_of {sc : PySem.Scope} {id : Str} (h : isGlob sc id = true) : sc.names.lookup id = some .globalImplicit ∧ (id == Str.ofString "__debug__") = false := by
  unfold isGlob at h
  simp only [Bool.and_eq_true, beq_iff_eq, Bool.not_eq_true'] at h
  exact h

theorem load_glob {id : Str} {p : Pos} {v : Value} {K : Value → Shared → Prop} (ok : CxOK cx) (R : Rel cx μ s.heap) (F : FR cx ev tbl env μ s.heap) (h : isGlob ev.scope id = true) (hv : cx.mg id = some v) (k : K v s) : wpAny cx.M A (eval (.Name id p) ev) K E0 s := by
  obtain ⟨h1, h2⟩ := isGlob_of h
  refine Calls.Name_function_global F.kind h1 (Calls.loadGlobal_global (mg := cx.mg) ?_ hv k) h2
  rw [F.glob]; exact ok.gns.keeps R.base
theorem load_boot {id : Str} {p : Pos} {v : Value} {K : Value → Shared → Prop} (ok : CxOK cx) (R : Rel cx μ s.heap) (F : FR cx ev tbl env μ s.heap) (h : isGlob ev.scope id = true) (hv : bootOf id = some v) (k : K v s) : wpAny cx.M A (eval (.Name id p) ev) K E0 s := by
  obtain ⟨h1, h2⟩ := isGlob_of h
  obtain ⟨h3, h4⟩ := ok.boot id v hv
  refine Calls.Name_function_global F.kind h1 (Calls.loadGlobal_builtin (mg := cx.mg) (mb := cx.mb) ?_ h3 ?_ h4 k) h2
  · rw [F.glob]; exact ok.gns.keeps R.base
  · rw [F.bi]; exact ok.bns.keeps R.base

/-- the room that is left: n calls deep -/
def Room (n : Nat) (A : Around) : Prop := A.handled = none ∧ A.depth + 3 * n < recursionLimit ∧ A.units + 20 * n + 300 < cLine
def RoomB (n : Nat) (A : Around) : Prop := A.handled = none ∧ A.depth + 3 * n + 2 < recursionLimit ∧ A.units + 20 * n + 310 < cLine
theorem RoomB.room {n : Nat} {A : Around} (h : RoomB n A) : Room n A := ⟨h.1, by have := h.2.1; omega, by have := h.2.2; omega⟩
theorem RoomB.units {n : Nat} {A : Around} (h : RoomB n A) : A.units + 100 < cLine := by have := h.2.2; omega

def calleeAt (cx : Cx) : Callee → Addr → Prop
  | .fn f, a => cx.mg f = some (.ref a)

/-- what a call of the text's own gives -/
def CallSound (cx : Cx) (C : CT) (n : Nat) : Prop := ∀ A, Room n A → ∀ f vs μ Q s xs fa, C f vs μ Q (fun _ _ => False) → Rel cx μ s.heap → VReps cx s.heap vs xs → calleeAt cx f fa →
  (∃ o fd, cx.h₀.get? fa = some o ∧ o.data = .func fd) ∧ codeAny cx.M A (.call (.ref fa) ⟨xs, []⟩) (fun r s' => match r with | .ok (.ret v) => Post cx μ s Q v s' | .ok _ => False | .error _ => False) s
end
end Mine

-- part MiniJ
namespace Mine
open PySem PyProof.Rows

abbrev X0 : XQ := fun _ _ => False

section
variable {cx : Cx} {A : Around} {μ : Mem} {s : Shared}

/-- a built-in type -/
def tyBoot : Ty → Option Value
  | .int => some (.type "int") | .bool => some (.type "bool") | .str => some (.type "str") | .list => some (.type "list")

theorem isT_sound {v : Val} {x : Value} {t : Ty} {ty : Value} {b : Bool} {Q : VQ} (ht : tyBoot t = some ty) (R : Rel cx μ s.heap) (hv : VRep cx s.heap v x) (h : isT cx.P.anc μ v t = some b) (hq : Q (.bool b) μ) :
    wpAny cx.M A (call (.builtin "isinstance") [x, ty]) (Post cx μ s Q) E0 s := by
  have p1 : ∀ tk, Post cx μ s Q (.bool b) { s with toks := tk } := fun tk => post_same R (.bool _) hq
  have p2 : Post cx μ s Q (.bool b) s := post_here R (.bool _) hq
  cases hv with
  | none => simp [isT] at h
  | int i u =>
    cases t <;> simp only [tyBoot, Option.some.injEq, reduceCtorEq] at ht <;> subst ht <;> simp only [isT, Option.some.injEq] at h <;> subst h
    · exact IsiPair.int_int p2
    · exact IsiPair.int_bool (p1 _)
    · exact IsiPair.int_str (p1 _)
    · exact IsiPair.int_list (p1 _)
  | str u _ _ =>
    cases t <;> simp only [tyBoot, Option.some.injEq, reduceCtorEq] at ht <;> subst ht <;> simp only [isT, Option.some.injEq] at h <;> subst h
    · exact IsiPair.str_int (p1 _)
    · exact IsiPair.str_bool (p1 _)
    · exact IsiPair.str_str p2
    · exact IsiPair.str_list (p1 _)
  | bool c =>
    cases t <;> simp only [tyBoot, Option.some.injEq, reduceCtorEq] at ht <;> subst ht <;> simp only [isT, Option.some.injEq] at h <;> subst h
    · exact IsiPair.bool_int p2
    · exact IsiPair.bool_bool p2
    · exact IsiPair.bool_str (p1 _)
    · exact IsiPair.bool_list (p1 _)
  | ref a =>
    simp only [isT] at h
    split at h
    · rename_i vs e
      obtain ⟨items, n, l, r, z⟩ := R.rep _ _ e
      cases t <;> simp only [tyBoot, Option.some.injEq, reduceCtorEq] at ht <;> subst ht <;> simp only [Option.some.injEq] at h <;> subst h
      · exact IsiPair.list_int l rfl (p1 _)
      · exact IsiPair.list_bool l rfl (p1 _)
      · exact IsiPair.list_str l rfl (p1 _)
      · exact IsiPair.list_list l rfl p2
    · cases h

def PostL (cx : Cx) (μ : Mem) (s : Shared) (Q : List Val → Mem → Prop) (vs : List Value) (s' : Shared) : Prop :=
  ∃ vs' μ', VReps cx s'.heap vs' vs ∧ Step cx F0 μ s.heap μ' s'.heap ∧ Same s s' ∧ Q vs' μ'
def PostB (cx : Cx) (μ : Mem) (s : Shared) (Q : Bool → Mem → Prop) (b : Bool) (s' : Shared) : Prop :=
  ∃ μ', Step cx F0 μ s.heap μ' s'.heap ∧ Same s s' ∧ Q b μ'
theorem PostB.trans {μ₁ : Mem} {s₁ s' : Shared} {Q : Bool → Mem → Prop} {b : Bool} (S : Step cx F0 μ s.heap μ₁ s₁.heap) (m : Same s s₁) (h : PostB cx μ₁ s₁ Q b s') : PostB cx μ s Q b s' :=
  let ⟨μ', a, c, d⟩ := h; ⟨μ', S.trans a, m.trans c, d⟩
end

-- the expressions that are served
mutual
def supE (P : Prog) : ME → Bool
  | .lit _ => true
  | .var _ => true
  | .bin _ a b => supE P a && supE P b
  | .neg a => supE P a
  | .not a => supE P a
  | .cmp _ a b => supE P a && supE P b
  | .bool _ es => supEs P es
  | .idx a b => supE P a && supE P b
  | .slice a b c => supE P a && supE P b && supE P c
  | .call f as => (P.fn (.fn f)).isSome && supEs P as
  | .meth o _ _ as => supE P o && supEs P as
  | .bi b as => BIok b && supEs P as
  | .isinst a t => (tyBoot t).isSome && supE P a
  | .list es => supEs P es
  | .dict _ kvs => kvs.isEmpty
def supEs (P : Prog) : List ME → Bool
  | [] => true
  | e :: es => supE P e && supEs P es
end

def SE (cx : Cx) (C : CT) (n : Nat) (ev : PySem.Env) (tbl : Tbl) (me : ME) (e : PySem.Expr) : Prop :=
  ∀ A env μ s Q, RoomB n A → FR cx ev tbl env μ s.heap → Rel cx μ s.heap → wpE cx.P C me env μ Q X0 → wpAny cx.M A (eval e ev) (Post cx μ s Q) E0 s

section
variable {cx : Cx} {C : CT} {n : Nat} (ok : CxOK cx) (hC : CallSound cx C n)

theorem lit_sound {A : Around} {μ : Mem} {s : Shared} {v : Val} {c : Const} {k : Nat} {p : Pos} {ev : PySem.Env} {Q : VQ} (h : litIs v c = true) (R : Rel cx μ s.heap) (hq : Q v μ) : wpAny cx.M A (eval (.Constant c k p) ev) (Post cx μ s Q) E0 s := by
  cases v <;> cases c <;> simp only [litIs, Bool.false_eq_true, beq_iff_eq, Bool.and_eq_true, decide_eq_true_eq] at h
  · exact wpAny_Constant_none (post_here R .none hq)
  · subst h; exact wpAny_Constant_bool (post_here R (.bool _) hq)
  · subst h; exact wpAny_Constant_int (post_same R (.int _ _) hq)
  · obtain ⟨⟨rfl, h1⟩, h2⟩ := h
    exact wpAny_Constant_str (post_same R (.str _ h1 (by have := sizeLine_eq; omega)) hq)

theorem list_of_evalArgs {M : Model} {A : Around} {E : Value → Shared → Prop} {s : Shared} {f : Value} {xs : List PySem.Expr} {ev : PySem.Env} {Q : Args → Shared → Prop}
    (h : wpAny M A (spliced (xs.map fun x => (false, eval x ev))) (fun vs s' => Q ⟨vs, []⟩ s') E s) : wpAny M A (evalArgs f true (xs.map fun x => (false, eval x ev)) []) Q E s := by
  cases xs with
  | nil =>
    unfold evalArgs
    show wpAny M A (spliced [] >>= _) Q E s
    refine wpAny_bind (wpAny_mono h (fun vs s' h' => ?_) fun _ _ x => x)
    refine wpAny_holding ?_
    exact wpAny_bind (wpAny_pure (wpAny_bind (wpAny_pure (wpAny_pure h'))))
  | cons x r => exact Calls.evalArgs_plain h

theorem any_false {xs : List PySem.Expr} {ev : PySem.Env} : (xs.map fun x => (false, eval x ev)).any (·.1) = false := by
  rw [List.any_map]; simp

theorem truthy_rep {A : Around} {s : Shared} {v : Val} {x : Value} {b : Bool} {K : Bool → Shared → Prop} (hv : VRep cx s.heap v x) (ht : truth v = some b) (k : K b s) : wpAny cx.M A (truthy x) K E0 s := by
  cases v <;> simp only [truth, Option.some.injEq, reduceCtorEq] at ht
  subst ht
  cases hv
  exact wpAny_truthy_bool k

/-- the arguments of a call, then the call -/
theorem callWith_args {A : Around} {μ : Mem} {s : Shared} {pos : Pos} {f : Value} {first : List Value} {xs : List PySem.Expr} {ev : PySem.Env} {QL : List Val → Mem → Prop} {K : Value → Shared → Prop}
    (hf : (∃ id, f = .builtin id) ∨ (∃ T, f = .type T) ∨ (∃ a o fd, f = .ref a ∧ cx.h₀.get? a = some o ∧ o.data = .func fd)
    )
    (h : wpAny cx.M A (spliced (xs.map fun x => (false, eval x ev))) (PostL cx μ s QL) E0 s)
    (k : ∀ ys s₁ vs μ₁, VReps cx s₁.heap vs ys → Step cx F0 μ s.heap μ₁ s₁.heap → Same s s₁ → QL vs μ₁ → wpAny cx.M A (call f (first ++ ys)) K E0 s₁) :
    wpAny cx.M A (callWith pos f first (xs.map fun x => (false, eval x ev)) []) K E0 s := by
  have h' : ∀ {f : Value}, wpAny cx.M A (evalArgs f true (xs.map fun x => (false, eval x ev)) []) (fun a s₁ => a.kw = [] ∧ ∃ vs μ₁, VReps cx s₁.heap vs a.pos ∧ Step cx F0 μ s.heap μ₁ s₁.heap ∧ Same s s₁ ∧ QL vs μ₁) E0 s :=
    list_of_evalArgs (wpAny_mono h (fun ys s₁ ⟨vs, μ₁, a, b, c, d⟩ => ⟨rfl, vs, μ₁, a, b, c, d⟩) fun _ _ e => e)
  rcases hf with ⟨id, rfl⟩ | ⟨T, rfl⟩ | ⟨a, o, fd, rfl, ho, hd⟩
  · refine Calls.callWith_builtin any_false (wpAny_mono h' (fun a s₁ ⟨e, vs, μ₁, h1, h2, h3, h4⟩ => ?_) fun _ _ e => e)
    rw [e]; exact k _ _ _ _ h1 h2 h3 h4
  · refine PySem.callWith_type any_false (wpAny_mono h' (fun a s₁ ⟨e, vs, μ₁, h1, h2, h3, h4⟩ => ?_) fun _ _ e => e)
    rw [e]; exact k _ _ _ _ h1 h2 h3 h4
  · refine Calls.callWith_function (o := o) (fd := fd) (wpAny_mono h' (fun a' s₁ ⟨e, vs, μ₁, h1, h2, h3, h4⟩ => ⟨⟨h2.rel.base _ _ ho, hd⟩, ?_⟩) fun _ _ e => e)
    rw [e]; exact k _ _ _ _ h1 h2 h3 h4

theorem eval_call_eq {fn : PySem.Expr} {as : List PySem.Expr} {pos : Pos} {ev : PySem.Env} {id : Str} {p : Pos} : eval (.Call (.Name id p) as [] pos) ev = (do callWith pos (← eval (.Name id p) ev) [] (backTo pos (starEach as ev)) (backToKw pos (keywordEach [] ev))) := rfl

theorem wp_call_name {M : Model} {A : Around} {E : Value → Shared → Prop} {s : Shared} {id : Str} {p pos : Pos} {as : List PySem.Expr} {ev : PySem.Env} {sc : PySem.Scope} {tbl : Tbl} {ms : List ME} {K : Value → Shared → Prop} (hs : chkEs sc tbl ms as = true)
    (h : wpAny M A (eval (.Name id p) ev) (fun f s₁ => wpAny M A (callWith pos f [] (as.map fun x => (false, eval x ev)) []) K E s₁) E s) : wpAny M A (eval (.Call (.Name id p) as [] pos) ev) K E s := by
  show wpAny M A (do callWith pos (← eval (.Name id p) ev) [] (backTo pos (starEach as ev)) (backToKw pos (keywordEach [] ev))) K E s
  rw [starEach_plain hs, backTo_plain]
  exact wpAny_bind h

theorem notSuper_base {M : Model} {o : PySem.Expr} {attr : Str} {ev : PySem.Env} {whole : Sem Value} (h : notSuper o = true) : attributeBase o attr ev whole = whole := by
  unfold attributeBase
  split
  · rename_i id p q
    simp only [notSuper, bne_iff_ne, ne_eq] at h
    have : (id != ("super" : Str)) = true := by simpa using h
    simp only [this, Bool.true_or, if_true]
  · rfl
end
end Mine

-- part MiniK
namespace Mine
open PySem PyProof.Rows

section
variable {cx : Cx} {A : Around} {μ : Mem} {s : Shared}

theorem boot_bi {b : BI} (h : BIok b = true) : bootOf (Str.ofString (biName b)) = some (biVal b) := by
  cases b <;> first | (simp [BIok] at h; done) | decide +kernel
theorem boot_isi : bootOf (Str.ofString "isinstance") = some (.builtin "isinstance") := by decide +kernel
theorem boot_ty {t : Ty} {v : Value} (h : tyBoot t = some v) : bootOf (tyName t) = some v := by
  cases t <;> simp only [tyBoot, Option.some.injEq, reduceCtorEq] at h <;> subst h <;> decide +kernel

theorem biVal_kind (b : BI) : (∃ id, biVal b = .builtin id) ∨ (∃ T, biVal b = .type T) ∨ (∃ a o fd, biVal b = .ref a ∧ cx.h₀.get? a = some o ∧ o.data = .func fd)
    := by
  cases b <;> first | exact .inl ⟨_, rfl⟩ | exact .inr (.inl ⟨_, rfl⟩)

/-- slices -/
theorem strOk_pick {x : Str} (h : PyData.strOk x = true) (ks : List Nat) : PyData.strOk ⟨(ks.filterMap (x.cps[·]?)).toArray⟩ = true := by
  unfold PyData.strOk at *
  rw [Array.all_eq_true'] at *
  intro c hc
  simp only [List.mem_toArray, List.mem_filterMap] at hc
  obtain ⟨k, _, hk⟩ := hc
  exact h c (Array.mem_of_getElem? hk)

theorem clipAt_le (n : Nat) (i : Int) : clipAt n i ≤ n := by unfold clipAt; omega
theorem slice_idx (x : Str) (l u : Option Int) : Builtin.Str.strSliceIndices l u 1 x.length = (List.range (u.elim x.length (clipAt x.length) - l.elim 0 (clipAt x.length))).map (l.elim 0 (clipAt x.length) + ·) := by
  rw [← sliceRange_one]
  unfold Builtin.Str.strSliceIndices
  cases l <;> cases u <;> simp [clipAt_cast]
theorem pick_len {x : Str} (l u : Option Int) : (⟨((Builtin.Str.strSliceIndices l u 1 x.length).filterMap (x.cps[·]?)).toArray⟩ : Str).length = u.elim x.length (clipAt x.length) - l.elim 0 (clipAt x.length) := by
  show ((Builtin.Str.strSliceIndices l u 1 x.length).filterMap (x.cps[·]?)).toArray.size = _
  rw [List.size_toArray, slice_idx]
  have hu : u.elim x.length (clipAt x.length) ≤ x.length := by
    cases u with
    | none => exact Nat.le_refl _
    | some i => exact clipAt_le _ _
  generalize u.elim x.length (clipAt x.length) = b at *
  generalize l.elim 0 (clipAt x.length) = a at *
  have key : ∀ ks : List Nat, (∀ k ∈ ks, k < x.length) → (ks.filterMap (x.cps[·]?)).length = ks.length := by
    intro ks
    induction ks with
    | nil => intro _; rfl
    | cons k ks ih =>
      intro h
      have hk : k < x.cps.size := h k (.head _)
      rw [List.filterMap_cons, Array.getElem?_eq_getElem hk]
      simp [ih fun k hk => h k (.tail _ hk)]
  rw [key]
  · simp
  · intro k hk
    obtain ⟨j, hj, rfl⟩ := List.mem_map.mp hk
    have := List.mem_range.mp hj
    omega

theorem sliceEnd_part {v : Val} {x : Value} {lo : Option Int} (hv : VRep cx s.heap v x) (h : sliceEnd v = some lo) : ∃ p : Option (Int × Tok), x = partValue p ∧ p.map (·.1) = lo := by
  cases hv <;> simp only [sliceEnd, Option.some.injEq, reduceCtorEq] at h
  · subst h; exact ⟨none, rfl, rfl⟩
  · subst h; exact ⟨some (_, _), rfl, rfl⟩
theorem Step.slice {F : Addr → Prop} {H : Heap} (R : Rel cx μ H) (vl vu : Value) : Step cx F μ H μ (H.push { cls := .type "slice", data := .fields #[vl, vu, .none] }) := Step.grow R fun _ _ e => Heap.get?_push_of_some _ e

/-- the slice is laid, the item asked -/
theorem slice_sound {value : PySem.Expr} {lower upper : Option PySem.Expr} {q : Pos} {o l h : Val} {xo xl xh : Value} {Q : VQ} (R : Rel cx μ s.heap) (ho : VRep cx s.heap o xo) (hl : VRep cx s.heap l xl) (hh : VRep cx s.heap h xh) (hw : wpSlice o l h μ Q) :
    wpAny cx.M A (subscriptTail value (.Slice lower upper none q) xo (.ref s.heap.objs.size)) (Post cx μ s Q) E0 { s with heap := s.heap.push { cls := .type "slice", data := .fields #[xl, xh, .none] } } := by
  obtain ⟨lo, hi, e1, e2, hw⟩ := hw
  obtain ⟨pl, rfl, hpl⟩ := sliceEnd_part hl e1
  obtain ⟨pu, rfl, hpu⟩ := sliceEnd_part hh e2
  have S : Step cx F0 μ s.heap μ (s.heap.push { cls := .type "slice", data := .fields #[partValue pl, partValue pu, .none] }) := Step.slice R _ _
  have hz : sizeLine = 16777216 := sizeLine_eq
  split at hw
  · cases ho with | str t k1 k2 =>
    rename_i x
    refine tail_any (ops := [.ref s.heap.objs.size, .str x t]) (T := "str") (typeIs_str _ x t) PySem.F.slot_str_getitem.lookup (wpAny_getItem_str_slice (l := pl) (u := pu) (st := none) ⟨_, Heap.get?_push_size _ rfl, rfl, rfl⟩ rfl ?_) rfl
    have hp := pick_len (x := x) lo hi
    have hle : hi.elim x.length (clipAt x.length) - lo.elim 0 (clipAt x.length) ≤ x.length := by
      have : hi.elim x.length (clipAt x.length) ≤ x.length := by
        cases hi with
        | none => exact Nat.le_refl _
        | some i => exact clipAt_le _ _
      omega
    have hsp : slicePicked x pl pu none = Builtin.Str.strSliceIndices lo hi 1 x.length := by unfold slicePicked; rw [hpl, hpu]; rfl
    unfold sliceMade
    rw [hsp]
    split
    · rename_i hc
      simp only [Bool.and_eq_true, beq_iff_eq] at hc
      refine ⟨_, _, .str _ k1 k2, S, ⟨rfl, rfl⟩, hw _ ?_⟩
      have := hc.2
      rw [slice_idx, List.length_map, List.length_range] at this
      exact this.symm
    · refine ⟨by rw [hp]; exact Nat.le_trans hle k2, ?_⟩
      exact ⟨_, _, .str _ (strOk_pick k1 _) (by rw [hp]; exact Nat.le_trans hle k2), S, ⟨rfl, rfl⟩, hw _ hp⟩
  · exact hw.elim

end
end Mine

-- part MiniL
namespace Mine
open PySem PyProof.Rows

/-- a method call: its base, its method, the arguments, the call -/
theorem wp_call_attr {M : Model} {A : Around} {E : Value → Shared → Prop} {s : Shared} {o : PySem.Expr} {m : Str} {ap pos : Pos} {as : List PySem.Expr} {ev : PySem.Env} {sc : PySem.Scope} {tbl : Tbl} {ms : List ME} {K : Value → Shared → Prop} (hs : chkEs sc tbl ms as = true)
    (hn : notSuper o = true) (hl : as.length ≤ 20) (hline : (ap.endLine == pos.line) = true)
    (h : wpAny M A (eval o ev) (fun ov s₁ => ∀ pl, wpAny M A (getMethod ov m pl) (fun fx s₂ => wpAny M A (callWith pos fx.1 fx.2 (as.map fun x => (false, eval x ev)) []) K E s₂) E s₁) E s) :
    wpAny M A (eval (.Call (.Attribute o m ap) as [] pos) ev) K E s := by
  rw [arm_eval_Call, notSuper_base (M := M) hn]
  have hform : methodCallForm (as.length + ([] : List Keyword).length) (backTo pos (starEach as ev)) (backToKw pos (keywordEach [] ev)) = true := by
    rw [starEach_plain hs, backTo_plain]
    unfold methodCallForm
    simp only [List.length_nil, Nat.add_zero, Bool.and_eq_true, List.all_eq_true]
    refine ⟨⟨?_, ?_⟩, ?_⟩
    · intro x hx
      obtain ⟨y, _, rfl⟩ := List.mem_map.mp hx
      rfl
    · intro x hx; exact nomatch hx
    · simp [backToKw, keywordEach]; omega
  refine wpAny_bind (wpAny_mono h (fun ov s₁ h₁ => wpAny_bind (wpAny_standAt ?_)) fun _ _ e => e)
  unfold methodCall
  rw [hform]
  refine wpAny_bind (wpAny_holding ?_)
  unfold calleeOf
  simp only [if_true]
  refine wpAny_mono (h₁ _) (fun fx s₂ h₂ => ?_) fun _ _ e => e
  obtain ⟨f, first⟩ := fx
  have hpos : methodCallPos true o ev ap pos = pure pos := by unfold methodCallPos; simp [hline]
  rw [starEach_plain hs, backTo_plain]
  exact wpAny_bind (wpAny_of_eq hpos h₂)

theorem chk_dict0 {sc : PySem.Scope} {tbl : Tbl} {tk : Bool} {e : PySem.Expr} (h : chkE sc tbl (.dict tk []) e = true) : ∃ p, e = .Dict [] [] p := by
  obtain ⟨ks, vs, p, rfl, h1, _, _, h2⟩ := chk_dict h
  have hk : ks = [] := List.length_eq_zero_iff.mp (by simp at h2; omega)
  subst hk
  have hv : vs = [] := List.length_eq_zero_iff.mp h1.symm
  subst hv
  exact ⟨p, rfl⟩
theorem wp_call_name' {M : Model} {A : Around} {E : Value → Shared → Prop} {s : Shared} {id : Str} {p pos : Pos} {as : List PySem.Expr} {ev : PySem.Env} {K : Value → Shared → Prop} (hs : starEach as ev = as.map fun x => (false, eval x ev))
    (h : wpAny M A (eval (.Name id p) ev) (fun f s₁ => wpAny M A (callWith pos f [] (as.map fun x => (false, eval x ev)) []) K E s₁) E s) : wpAny M A (eval (.Call (.Name id p) as [] pos) ev) K E s := by
  show wpAny M A (do callWith pos (← eval (.Name id p) ev) [] (backTo pos (starEach as ev)) (backToKw pos (keywordEach [] ev))) K E s
  rw [hs, backTo_plain]
  exact wpAny_bind h

theorem isL_id {k : LM} (h : k.isL = true) : ∃ id, listIdOf k = some id := by
  cases k <;> first | exact ⟨_, rfl⟩ | (cases h; done)
theorem ownOr_L {k : LM} {m : Str} (h : k.isL = true) (ho : ownOr k m = true) : m = Str.ofString (lmName k) := by
  cases k <;> first | exact beq_iff_eq.mp ho | (cases h; done)

section
variable {cx : Cx} {C : CT} {n : Nat} (ok : CxOK cx) (hC : CallSound cx C n) {ev : PySem.Env} {tbl : Tbl}

include ok hC in
mutual
theorem soundE : ∀ (me : ME) (e : PySem.Expr), supE cx.P me = true → chkE ev.scope tbl me e = true → SE cx C n ev tbl me e
  | .lit v, e, _, hc => by
    obtain ⟨c, k, p, rfl, h⟩ := chk_lit hc
    intro A env μ s Q hA F R hw
    exact lit_sound h R hw
  | .var i, e, _, hc => by
    obtain ⟨id, p, rfl, h1, h2, h3⟩ := chk_var hc
    intro A env μ s Q hA F R hw
    simp only [wpE] at hw
    split at hw
    · rename_i v hv
      exact load_var F h1 h2 h3 hv fun y hy => post_here R hy hw
    · exact hw.elim
  | .bin op a b, e, hs, hc => by
    obtain ⟨l, o, r, p, rfl, h1, h2, h3⟩ := chk_bin hc
    simp only [supE, Bool.and_eq_true] at hs
    intro A env μ s Q hA F R hw
    simp only [wpE] at hw
    refine wpAny_BinOp (wp_then (soundE a l hs.1 h2 A env μ s _ hA F R hw) fun v s₁ v' μ₁ a1 a2 a3 a4 => ?_)
    refine wp_then (soundE b r hs.2 h3 A env μ₁ s₁ _ hA (F.step a2) a2.rel a4) fun v2 s₂ v2' μ₂ b1 b2 b3 b4 => ?_
    exact wpAny_mono (wpBin_sound h1 b2.rel (b2.v a1) b1 b4) (fun x s' hx => Post.trans (a2.trans b2) (a3.trans b3) hx) fun _ _ e => e
  | .neg a, e, hs, hc => by
    obtain ⟨x, p, rfl, h1⟩ := chk_neg hc
    simp only [supE] at hs
    intro A env μ s Q hA F R hw
    simp only [wpE] at hw
    refine wpAny_UnaryOp (wp_then (soundE a x hs h1 A env μ s _ hA F R hw) fun v s₁ v' μ₁ a1 a2 a3 a4 => ?_)
    cases a1 <;> simp only at a4
    exact P.neg_int (Post.trans a2 a3 (post_same a2.rel (.int _ _) a4))
  | .not a, e, hs, hc => by
    obtain ⟨x, p, rfl, h1⟩ := chk_not hc
    simp only [supE] at hs
    intro A env μ s Q hA F R hw
    simp only [wpE] at hw
    refine wpAny_UnaryOp (wp_then (soundE a x hs h1 A env μ s _ hA F R hw) fun v s₁ v' μ₁ a1 a2 a3 a4 => ?_)
    split at a4
    · rename_i b hb
      exact not_value (truthy_rep a1 hb (Post.trans a2 a3 (post_here a2.rel (.bool _) a4)))
    · exact a4.elim
  | .cmp op a b, e, hs, hc => by
    obtain ⟨l, o, r, p, rfl, h1, h2, h3⟩ := chk_cmp hc
    simp only [supE, Bool.and_eq_true] at hs
    intro A env μ s Q hA F R hw
    simp only [wpE] at hw
    refine wpAny_Compare1 (wp_then (soundE a l hs.1 h2 A env μ s _ hA F R hw) fun v s₁ v' μ₁ a1 a2 a3 a4 => ?_) (chk_noSet h3)
    refine wp_then (soundE b r hs.2 h3 A env μ₁ s₁ _ hA (F.step a2) a2.rel a4) fun v2 s₂ v2' μ₂ b1 b2 b3 b4 => ?_
    exact wpCmp_sound h1 hA.units b2.rel (b2.v a1) b1 b4 fun b tk hb => Post.trans (a2.trans b2) (a3.trans b3) (post_same b2.rel (.bool _) hb)
  | .bool isAnd es, e, hs, hc => by
    obtain ⟨vs, p, rfl, h1, h2⟩ := chk_bool hc
    simp only [supE] at hs
    intro A env μ s Q hA F R hw
    simp only [wpE] at hw
    show wpAny _ _ (boolOp p _ (evalEach vs ev)) _ _ _
    exact soundB isAnd es vs hs h2 (by omega) A env μ s Q p hA F R hw
  | .idx a i, e, hs, hc => by
    obtain ⟨v, sl, p, rfl, h1, h2⟩ := chk_idx hc
    simp only [supE, Bool.and_eq_true] at hs
    intro A env μ s Q hA F R hw
    simp only [wpE] at hw
    refine Subscript_ (wp_then (soundE a v hs.1 h1 A env μ s _ hA F R hw) fun v s₁ v' μ₁ a1 a2 a3 a4 => ?_)
    refine wp_then (soundE i sl hs.2 h2 A env μ₁ s₁ _ hA (F.step a2) a2.rel a4) fun v2 s₂ v2' μ₂ b1 b2 b3 b4 => ?_
    exact wpAny_mono (wpIdx_sound (chk_noSlice h2) hA.units b2.rel (b2.v a1) b1 b4) (fun x s' hx => Post.trans (a2.trans b2) (a3.trans b3) hx) fun _ _ e => e
  | .slice a l h, e, hs, hc => by
    obtain ⟨v, lo, hi, q, p, rfl, h1, h2, h3⟩ := chk_slice hc
    simp only [supE, Bool.and_eq_true] at hs
    intro A env μ s Q hA F R hw
    simp only [wpE] at hw
    refine Subscript_ (wp_then (soundE a v hs.1.1 h1 A env μ s _ hA F R hw) fun v s₁ v' μ₁ a1 a2 a3 a4 => ?_)
    refine wpAny_Slice ?_
    have part : ∀ (m : ME) (x : Option PySem.Expr) (μ : Mem) (s : Shared) (Q : VQ), (match x with | none => m = .lit .none | some e => SE cx C n ev tbl m e) → FR cx ev tbl env μ s.heap → Rel cx μ s.heap → wpE cx.P C m env μ Q X0 → wpAny cx.M A (evalPart x ev) (Post cx μ s Q) E0 s := by
      intro m x μ s Q hx F R hw
      cases x with
      | none =>
        simp only at hx
        subst hx
        simp only [wpE] at hw
        exact wpAny_pure (post_here R .none hw)
      | some e => exact hx A env μ s Q hA F R hw
    refine wp_then (part l lo μ₁ s₁ _ (by cases lo with | none => exact h2 | some x => exact soundE l x hs.1.2 h2) (F.step a2) a2.rel a4) fun v2 s₂ v2' μ₂ b1 b2 b3 b4 => ?_
    refine wp_then (part h hi μ₂ s₂ _ (by cases hi with | none => exact h3 | some x => exact soundE h x hs.2 h3) ((F.step a2).step b2) b2.rel b4) fun v3 s₃ v3' μ₃ c1 c2 c3 c4 => ?_
    rw [evalPart_none]
    refine wpAny_pure ?_
    exact wpAny_mono (slice_sound c2.rel (c2.v (b2.v a1)) (c2.v b1) c1 c4) (fun x s' hx => Post.trans (a2.trans (b2.trans c2)) (a3.trans (b3.trans c3)) hx) fun _ _ e => e
  | .call f args, e, hs, hc => by
    obtain ⟨p, as, q, rfl, h1, h2, h3⟩ := chk_call hc
    simp only [supE] at hs
    intro A env μ s Q hA F R hw
    simp only [wpE] at hw
    simp only [Bool.and_eq_true] at hs
    obtain ⟨fd, hfd⟩ := Option.isSome_iff_exists.mp hs.1
    obtain ⟨fa, hfa, o, f, body, ho, hd, hrest⟩ := ok.fns _ _ hfd
    refine wp_call_name h3 (load_glob ok R F h1 hfa ?_)
    refine callWith_args (
      .inr (.inr ⟨_, o, f, rfl, ho, hd⟩)
      ) (soundEs args as hs.2 h3 A env μ s _ hA F R hw) fun ys s₁ vs μ₁ a1 a2 a3 a4 => ?_
    refine wpAny_call (codeAny_mono (hC A hA.room (.fn _) vs μ₁ Q s₁ ys fa a4 a2.rel a1 hfa).2 fun r s' hr => ?_)
    rcases r with e | (_ | _ | _ | v) <;> first | exact hr.elim | exact Post.trans a2 a3 hr
  | .meth o m k args, e, hs, hc => by
    obtain ⟨v, ap, as, p, rfl, h1, h2, h3, h4, h5, h6⟩ := chk_meth hc
    simp only [supE, Bool.and_eq_true] at hs
    intro A env μ s Q hA F R hw
    simp only [wpE] at hw
    refine wp_call_attr h6 h3 h4 h2 (wp_then (soundE o v hs.1 h5 A env μ s _ hA F R hw) fun ov s₁ ov' μ₁ a1 a2 a3 a4 => ?_)
    intro pl
    split at a4
    · rename_i a
      cases a1
      split at a4
      · rename_i vs e
        obtain ⟨items, nn, l, r, z⟩ := a2.rel.rep _ _ e
        obtain ⟨id, hid⟩ := isL_id a4.1
        rw [ownOr_L a4.1 h1]
        refine getMethod_list l hid ?_
        refine callWith_args (.inl ⟨_, rfl⟩) (soundEs args as hs.2 h6 A env μ₁ s₁ _ hA (F.step a2) a2.rel a4.2) fun ys s₂ vs' μ₂ b1 b2 b3 b4 => ?_
        split at b4
        · rename_i xs e2
          exact wpAny_mono (listMeth_sound hid b2.rel e2 b1 b4) (fun x s' hx => Post.trans (a2.trans b2) (a3.trans b3) hx) fun _ _ e => e
        · exact b4.elim
      · exact a4.elim
    · exact a4.elim
  | .bi b args, e, hs, hc => by
    simp only [supE, Bool.and_eq_true] at hs
    obtain ⟨p, as, q, rfl, h1, h2, h3⟩ := chk_bi hs.1 hc
    intro A env μ s Q hA F R hw
    simp only [wpE] at hw
    refine wp_call_name h3 (load_boot ok R F h1 (boot_bi hs.1) ?_)
    refine callWith_args (biVal_kind b) (soundEs args as hs.2 h3 A env μ s _ hA F R hw) fun ys s₁ vs μ₁ a1 a2 a3 a4 => ?_
    exact wpAny_mono (wpBI_sound hs.1 hA.1 (a2.rel.size ok) a2.rel a1 a4) (fun x s' hx => Post.trans a2 a3 hx) fun _ _ e => e
  | .isinst a t, e, hs, hc => by
    obtain ⟨p, x, q, r, rfl, h1, h2, h3⟩ := chk_isinst hc
    simp only [supE, Bool.and_eq_true] at hs
    intro A env μ s Q hA F R hw
    simp only [wpE] at hw
    obtain ⟨ty, hty⟩ := Option.isSome_iff_exists.mp hs.1
    have hstar : starEach [x, .Name (tyName t) q] ev = [x, .Name (tyName t) q].map fun x => (false, eval x ev) := by
      have hx := chk_notStar h3
      cases x <;> first | rfl | (simp [notStar] at hx)
    refine wp_call_name' hstar (load_boot ok R F h1 boot_isi ?_)
    refine Calls.callWith_builtin any_false (list_of_evalArgs (Calls.spliced_cons (wp_then (soundE a x hs.2 h3 A env μ s _ hA F R hw) fun v s₁ v' μ₁ a1 a2 a3 a4 => ?_)))
    refine Calls.spliced_cons (load_boot ok a2.rel (F.step a2) h2 (boot_ty hty) (Calls.spliced_nil ?_))
    split at a4
    · rename_i b hb
      exact wpAny_mono (isT_sound (Q := Q) hty a2.rel a1 hb a4) (fun x s' hx => Post.trans a2 a3 hx) fun _ _ e => e
    · exact a4.elim
  | .list es, e, hs, hc => by
    obtain ⟨xs, p, rfl, h1⟩ := chk_list hc
    simp only [supE] at hs
    intro A env μ s Q hA F R hw
    simp only [wpE] at hw
    refine List_ ?_
    rw [starEach_plain h1, backTo_plain]
    refine wpAny_mono (soundEs es xs hs h1 A env μ s _ hA F R hw) (fun ys s₁ ⟨vs, μ₁, a1, a2, a3, a4⟩ => ?_) fun _ _ e => e
    have hl := a4.1
    rw [szl_eq] at hl
    have hlen := a1.len
    refine wpAny_newObj_type ?_ (by show ys.toArray.size ≤ sizeLine; rw [List.size_toArray]; omega)
    have S2 := Step.new_list (F := F0) a2.rel (vs := vs) (items := ys.toArray) (by simpa using a1) hl
    exact ⟨_, _, .ref _, a2.trans S2, ⟨a3.1, a3.2⟩, a4.2 _ a2.rel.fresh⟩
  | .dict tk kvs, e, hs, hc => by
    simp only [supE, List.isEmpty_iff] at hs
    subst hs
    obtain ⟨p, rfl⟩ := chk_dict0 hc
    intro A env μ s Q hA F R hw
    simp only [wpE, wpEs] at hw
    refine wpAny_Dict_empty ?_
    cases tk with
    | true =>
      exact hw.elim
    | false =>
      simp only [pairUp, List.foldl_nil] at hw
      have hk : ∀ b ob, s.heap.get? b = some ob → (s.heap.push { cls := .type "dict", data := .dict #[] }).get? b = some ob := fun b ob e => Heap.get?_push_of_some _ e
      exact ⟨_, _, .ref _, Step.new_sdict R (R.size ok) (es := []) (xs := []) ⟨rfl, .nil⟩ (fun p hp => nomatch hp) (Nat.zero_le _) hk (Heap.DictOf.new _), ⟨rfl, rfl⟩, hw.2 _ R.fresh⟩
theorem soundEs : ∀ (ms : List ME) (xs : List PySem.Expr), supEs cx.P ms = true → chkEs ev.scope tbl ms xs = true → ∀ A env μ s Q, RoomB n A → FR cx ev tbl env μ s.heap → Rel cx μ s.heap → wpEs cx.P C ms env μ Q X0 →
    wpAny cx.M A (spliced (xs.map fun x => (false, eval x ev))) (PostL cx μ s Q) E0 s
  | [], xs, _, hc, A, env, μ, s, Q, hA, F, R, hw => by
    rw [chkEs_nil hc]
    simp only [wpEs] at hw
    exact Calls.spliced_nil ⟨[], μ, .nil, Step.refl R, ⟨rfl, rfl⟩, hw⟩
  | m :: ms, xs, hs, hc, A, env, μ, s, Q, hA, F, R, hw => by
    obtain ⟨x, r, rfl, h1, h2⟩ := chkEs_cons hc
    simp only [supEs, Bool.and_eq_true] at hs
    simp only [wpEs] at hw
    refine Calls.spliced_cons (wp_then (soundE m x hs.1 h1 A env μ s _ hA F R hw) fun v s₁ v' μ₁ a1 a2 a3 a4 => ?_)
    refine wpAny_mono (soundEs ms r hs.2 h2 A env μ₁ s₁ _ hA (F.step a2) a2.rel a4) (fun ys s₂ ⟨vs, μ₂, b1, b2, b3, b4⟩ => ?_) fun _ _ e => e
    exact ⟨_, _, .cons (b2.v a1) b1, a2.trans b2, a3.trans b3, b4⟩
theorem soundB : ∀ (isAnd : Bool) (ms : List ME) (xs : List PySem.Expr), supEs cx.P ms = true → chkEs ev.scope tbl ms xs = true → 1 ≤ ms.length → ∀ A env μ s Q p, RoomB n A → FR cx ev tbl env μ s.heap → Rel cx μ s.heap → wpB cx.P C isAnd ms env μ Q X0 →
    wpAny cx.M A (boolOp p (if isAnd then .And else .Or) (evalEach xs ev)) (Post cx μ s Q) E0 s
  | isAnd, [], xs, _, hc, hl, A, env, μ, s, Q, p, hA, F, R, hw => by simp at hl
  | isAnd, [m], xs, hs, hc, hl, A, env, μ, s, Q, p, hA, F, R, hw => by
    obtain ⟨x, r, rfl, h1, h2⟩ := chkEs_cons hc
    rw [chkEs_nil h2]
    simp only [supEs, Bool.and_eq_true] at hs
    simp only [wpB] at hw
    exact soundE m x hs.1 h1 A env μ s _ hA F R hw
  | isAnd, m :: m2 :: ms, xs, hs, hc, hl, A, env, μ, s, Q, p, hA, F, R, hw => by
    obtain ⟨x, r, rfl, h1, h2⟩ := chkEs_cons hc
    obtain ⟨y, r', rfl, _, _⟩ := chkEs_cons h2
    simp only [supEs, Bool.and_eq_true] at hs
    rw [wpB] at hw
    · show wpAny _ _ (boolOp p _ (eval x ev :: eval y ev :: evalEach r' ev)) _ _ _
      unfold boolOp
      refine wpAny_bind (wp_then (soundE m x hs.1 h1 A env μ s _ hA F R hw) fun v s₁ v' μ₁ a1 a2 a3 a4 => ?_)
      refine wpAny_bind (wpAny_standAt ?_)
      split at a4
      · rename_i b hb
        refine wpAny_bind (wpAny_holding (truthy_rep a1 hb ?_))
        split at a4
        · rename_i e
          subst e
          have := soundB b (m2 :: ms) (y :: r') (by simp [supEs, hs.2]) h2 (by simp) A env μ₁ s₁ Q p hA (F.step a2) a2.rel a4
          cases b <;> exact wpAny_mono this (fun x s' hx => Post.trans a2 a3 hx) fun _ _ e => e
        · have fin : wpAny cx.M A (pure v) (Post cx μ s Q) E0 s₁ := wpAny_pure (Post.trans a2 a3 (post_here a2.rel a1 a4))
          cases b <;> cases isAnd <;> first | exact fin | (rename_i hne; exact absurd rfl hne)
      · exact a4.elim
    · intro h; cases h
end
end
end Mine

-- part MiniM
namespace Mine
open PySem PyProof.Rows

def plainT : ME → Bool
  | .not _ => false
  | .bool .. => false
  | .cmp .. => false
  | _ => true

theorem isTrue_plain {sc : PySem.Scope} {tbl : Tbl} {me : ME} {e : PySem.Expr} {ev : PySem.Env} {w : Sem Value} (h : chkE sc tbl me e = true) (hp : plainT me = true) : isTrue e ev w = (do let v ← w; standAt e.pos; holding [v] (truthy v)) := by
  cases me with
  | lit v => obtain ⟨_, _, _, rfl, _⟩ := chk_lit h; rfl
  | var i => obtain ⟨_, _, rfl, _⟩ := chk_var h; rfl
  | bin op a b => obtain ⟨_, _, _, _, rfl, _⟩ := chk_bin h; rfl
  | neg a => obtain ⟨_, _, rfl, _⟩ := chk_neg h; rfl
  | not a => cases hp
  | cmp op a b => cases hp
  | bool b es => cases hp
  | idx a i => obtain ⟨_, _, _, rfl, _⟩ := chk_idx h; rfl
  | slice a l k => obtain ⟨_, _, _, _, _, rfl, _⟩ := chk_slice h; rfl
  | call f as => obtain ⟨_, _, _, rfl, _⟩ := chk_call h; rfl
  | meth o m k as => obtain ⟨_, _, _, _, rfl, _⟩ := chk_meth h; rfl
  | bi b as => obtain ⟨_, _, _, rfl⟩ := chk_biCall h; rfl
  | isinst a t => obtain ⟨_, _, _, _, rfl, _⟩ := chk_isinst h; rfl
  | list es => obtain ⟨_, _, rfl, _⟩ := chk_list h; rfl
  | dict tk kvs => obtain ⟨_, _, _, rfl, _⟩ := chk_dict h; rfl

section
variable {cx : Cx} {C : CT} {n : Nat} (ok : CxOK cx) (hC : CallSound cx C n) {ev : PySem.Env} {tbl : Tbl}

include ok hC in
theorem soundT_plain {me : ME} {e : PySem.Expr} (hs : supE cx.P me = true) (hc : chkE ev.scope tbl me e = true) (hp : plainT me = true) {A env μ s} {Q : Bool → Mem → Prop} (hA : RoomB n A) (F : FR cx ev tbl env μ s.heap) (R : Rel cx μ s.heap)
    (hw : wpE cx.P C me env μ (fun v μ₁ => match truth v with | some b => Q b μ₁ | none => False) X0) : wpAny cx.M A (isTrue e ev (eval e ev)) (PostB cx μ s Q) E0 s := by
  refine wpAny_isTrue_value (wp_then (soundE ok hC me e hs hc A env μ s _ hA F R hw) fun v s₁ v' μ₁ a1 a2 a3 a4 => ?_) (isTrue_plain hc hp)
  split at a4
  · rename_i b hb
    exact truthy_rep a1 hb ⟨_, a2, a3, a4⟩
  · exact a4.elim

include ok hC in
mutual
theorem soundT : ∀ (me : ME) (e : PySem.Expr), supE cx.P me = true → chkE ev.scope tbl me e = true → ∀ A env μ s Q, RoomB n A → FR cx ev tbl env μ s.heap → Rel cx μ s.heap → wpT cx.P C me (wpE cx.P C me) env μ Q X0 →
    wpAny cx.M A (isTrue e ev (eval e ev)) (PostB cx μ s Q) E0 s
  | .not a, e, hs, hc, A, env, μ, s, Q, hA, F, R, hw => by
    obtain ⟨x, p, rfl, h1⟩ := chk_not hc
    simp only [supE] at hs
    simp only [wpT] at hw
    exact wpAny_isTrue_Not (wpAny_mono (soundT a x hs h1 A env μ s _ hA F R hw) (fun b s₁ ⟨μ₁, a, b, c⟩ => ⟨μ₁, a, b, c⟩) fun _ _ e => e)
  | .bool isAnd es, e, hs, hc, A, env, μ, s, Q, hA, F, R, hw => by
    obtain ⟨vs, p, rfl, h1, h2⟩ := chk_bool hc
    simp only [supE] at hs
    simp only [wpT] at hw
    exact wpAny_isTrue_BoolOp (soundTs isAnd es vs hs h2 A env μ s Q hA F R hw)
  | .cmp op a b, e, hs, hc, A, env, μ, s, Q, hA, F, R, hw => by
    obtain ⟨l, o, r, p, rfl, h1, h2, h3⟩ := chk_cmp hc
    simp only [supE, Bool.and_eq_true] at hs
    simp only [wpT] at hw
    refine wpAny_isTrue_Compare1 (wp_then (soundE ok hC a l hs.1 h2 A env μ s _ hA F R hw) fun v s₁ v' μ₁ a1 a2 a3 a4 => ?_) (chk_noSet h3)
    refine wp_then (soundE ok hC b r hs.2 h3 A env μ₁ s₁ _ hA (F.step a2) a2.rel a4) fun v2 s₂ v2' μ₂ b1 b2 b3 b4 => ?_
    exact wpCmp_sound h1 hA.units b2.rel (b2.v a1) b1 b4 fun b tk hb => wpAny_truthy_bool ⟨_, a2.trans b2, a3.trans b3, hb⟩
  | .lit _, e, hs, hc, A, env, μ, s, Q, hA, F, R, hw => soundT_plain ok hC hs hc rfl hA F R hw
  | .var _, e, hs, hc, A, env, μ, s, Q, hA, F, R, hw => soundT_plain ok hC hs hc rfl hA F R hw
  | .bin .., e, hs, hc, A, env, μ, s, Q, hA, F, R, hw => soundT_plain ok hC hs hc rfl hA F R hw
  | .neg _, e, hs, hc, A, env, μ, s, Q, hA, F, R, hw => soundT_plain ok hC hs hc rfl hA F R hw
  | .idx .., e, hs, hc, A, env, μ, s, Q, hA, F, R, hw => soundT_plain ok hC hs hc rfl hA F R hw
  | .slice .., e, hs, hc, A, env, μ, s, Q, hA, F, R, hw => soundT_plain ok hC hs hc rfl hA F R hw
  | .call .., e, hs, hc, A, env, μ, s, Q, hA, F, R, hw => soundT_plain ok hC hs hc rfl hA F R hw
  | .meth .., e, hs, hc, A, env, μ, s, Q, hA, F, R, hw => soundT_plain ok hC hs hc rfl hA F R hw
  | .bi .., e, hs, hc, A, env, μ, s, Q, hA, F, R, hw => soundT_plain ok hC hs hc rfl hA F R hw
  | .isinst .., e, hs, hc, A, env, μ, s, Q, hA, F, R, hw => soundT_plain ok hC hs hc rfl hA F R hw
  | .list _, e, hs, hc, A, env, μ, s, Q, hA, F, R, hw => soundT_plain ok hC hs hc rfl hA F R hw
  | .dict .., e, hs, hc, A, env, μ, s, Q, hA, F, R, hw => soundT_plain ok hC hs hc rfl hA F R hw
theorem soundTs : ∀ (isAnd : Bool) (ms : List ME) (xs : List PySem.Expr), supEs cx.P ms = true → chkEs ev.scope tbl ms xs = true → ∀ A env μ s Q, RoomB n A → FR cx ev tbl env μ s.heap → Rel cx μ s.heap → wpTs cx.P C isAnd ms env μ Q X0 →
    wpAny cx.M A (allTrue (if isAnd then .And else .Or) xs ev) (PostB cx μ s Q) E0 s
  | isAnd, [], xs, _, hc, A, env, μ, s, Q, hA, F, R, hw => by
    rw [chkEs_nil hc]
    simp only [wpTs] at hw
    cases isAnd
    · exact wpAny_allTrue_Or_nil ⟨_, Step.refl R, ⟨rfl, rfl⟩, hw⟩
    · exact wpAny_allTrue_And_nil ⟨_, Step.refl R, ⟨rfl, rfl⟩, hw⟩
  | isAnd, m :: ms, xs, hs, hc, A, env, μ, s, Q, hA, F, R, hw => by
    obtain ⟨x, r, rfl, h1, h2⟩ := chkEs_cons hc
    simp only [supEs, Bool.and_eq_true] at hs
    simp only [wpTs] at hw
    have ht := soundT m x hs.1 h1 A env μ s _ hA F R hw
    cases isAnd
    · refine wpAny_allTrue_Or_cons (wpAny_mono ht (fun b s₁ ⟨μ₁, a1, a2, a3⟩ => ?_) fun _ _ e => e)
      cases b
      · simp only [if_true] at a3
        exact wpAny_mono (soundTs false ms r hs.2 h2 A env μ₁ s₁ Q hA (F.step a1) a1.rel a3) (fun b s₂ h => PostB.trans a1 a2 h) fun _ _ e => e
      · exact ⟨_, a1, a2, a3⟩
    · refine wpAny_allTrue_And_cons (wpAny_mono ht (fun b s₁ ⟨μ₁, a1, a2, a3⟩ => ?_) fun _ _ e => e)
      cases b
      · exact ⟨_, a1, a2, a3⟩
      · simp only [if_true] at a3
        exact wpAny_mono (soundTs true ms r hs.2 h2 A env μ₁ s₁ Q hA (F.step a1) a1.rel a3) (fun b s₂ h => PostB.trans a1 a2 h) fun _ _ e => e
end
end
end Mine

-- part MiniN
namespace Mine
open PySem PyProof.Rows

section
variable {cx : Cx} {A : Around}

structure Iter (cx : Cx) (A : Around) (I : Addr) (src : Src) (items : List Val) (St : Nat → Heap → Prop) : Prop where
  frame : ∀ i h h', St i h → (∀ o, h.get? I = some o → h'.get? I = some o) → KeepT h h' → KeepR h h' → St i h'
  typ : ∀ i h, St i h → ∃ o T, h.get? I = some o ∧ o.cls = .type T ∧ T ≠ "tuple"
  item : ∀ i μ s v (Q : Option Value → Shared → Prop) (E : Value → Shared → Prop), items[i]? = some v → St i s.heap → Rel cx μ s.heap → live src μ →
    (∀ x h' tk, VRep cx h' v x → St (i + 1) h' → (∀ b o, b ≠ I → s.heap.get? b = some o → h'.get? b = some o) → Q (some x) { s with heap := h', toks := tk }) → wpAny cx.M A (pyNext (.ref I)) Q E s
  done : ∀ μ s (Q : Option Value → Shared → Prop) (E : Value → Shared → Prop), St items.length s.heap → Rel cx μ s.heap → live src μ →
    (∀ h' tk, (∀ b o, b ≠ I → s.heap.get? b = some o → h'.get? b = some o) → Q none { s with heap := h', toks := tk }) → wpAny cx.M A (pyNext (.ref I)) Q E s

theorem keepT_but {H H' : Heap} {I : Addr} (hI : ∃ o T, H.get? I = some o ∧ o.cls = .type T ∧ T ≠ "tuple") (hk : ∀ b o, b ≠ I → H.get? b = some o → H'.get? b = some o) : KeepT H H' := fun a o h hc _ => hk a o (fun e => by
  subst e
  obtain ⟨o', T, h1, h2, h3⟩ := hI
  rw [h] at h1; cases h1
  rw [h2] at hc; injection hc with hc; exact h3 hc) h
theorem keepR_but {H H' : Heap} {I : Addr} (hI : ∃ o T, H.get? I = some o ∧ o.cls = .type T ∧ T ≠ "tuple") (hk : ∀ b o, b ≠ I → H.get? b = some o → H'.get? b = some o) : KeepR H H' := fun a o C h hc hs => ⟨o, hk a o (fun e => by
  subst e
  obtain ⟨o', T, h1, h2, h3⟩ := hI
  rw [h] at h1; cases h1
  rw [h2] at hc; cases hc) h, hc, hs⟩

theorem Iter.list (hh : A.handled = none) {I a : Addr} {xs : List Val} : Iter cx A I (some (a, .list xs)) xs (fun i h => h.IsListIter I a i) where
  frame := fun i h h' st hk _ _ => let ⟨o, ho, r⟩ := st; ⟨o, hk o ho, r⟩
  typ := fun i h ⟨o, ho, hc, _⟩ => ⟨o, _, ho, hc, by simp⟩
  item := fun i μ s v Q E hv st R lv hQ => by
    obtain ⟨items, n, l, r, z⟩ := R.rep _ _ lv
    have hne : a ≠ I := fun e => by
      subst e
      obtain ⟨o, ho, hc, _⟩ := st
      rw [l] at ho; cases ho; simp at hc
    obtain ⟨x, hx, hr⟩ := r.get hv
    have hlt : i < items.size := by
      have := (List.getElem?_eq_some_iff.mp hx).1
      simpa using this
    refine (Walks.list hh I a hne items).item i s Q E hlt ⟨st, l.isList⟩ fun x' h' tk hP hst hk => ?_
    have hx' : x' = x := by
      rw [Array.getElem?_toList] at hx
      rw [hP] at hx; exact Option.some.inj hx
    subst hx'
    have hk' : ∀ b o, b ≠ I → s.heap.get? b = some o → h'.get? b = some o := fun b o hb e => hk b o (by simpa using hb) e
    have ty : ∃ o T, s.heap.get? I = some o ∧ o.cls = .type T ∧ T ≠ "tuple" := by obtain ⟨o, ho, hc, _⟩ := st; exact ⟨o, _, ho, hc, by simp⟩
    exact hQ x' h' tk (hr.mono (keepT_but ty hk') (keepR_but ty hk')) hst.1 hk'
  done := fun μ s Q E st R lv hQ => by
    obtain ⟨items, n, l, r, z⟩ := R.rep _ _ lv
    have hne : a ≠ I := fun e => by
      subst e
      obtain ⟨o, ho, hc, _⟩ := st
      rw [l] at ho; cases ho; simp at hc
    have hlen := r.len
    simp only [Array.length_toList] at hlen
    refine (Walks.list hh I a hne items).done s Q E ⟨by rw [← hlen]; exact st, l.isList⟩ fun h' tk hk => ?_
    exact hQ h' tk fun b o hb e => hk b o (by simpa using hb) e

theorem Iter.range (hh : A.handled = none) {I : Addr} (a b : Int) : Iter cx A I none (rangeL a b) (fun i h => IsRangeIter h I (a + (i : Nat) * 1) (((b - a).toNat : Int) - (i : Nat)) 1) where
  frame := fun i h h' st hk _ _ => hk _ st
  typ := fun i h st => ⟨_, _, st, rfl, by simp⟩
  item := fun i μ s v Q E hv st R lv hQ => by
    have hlt : i < (b - a).toNat := by
      have := (List.getElem?_eq_some_iff.mp hv).1
      simpa [rangeL] using this
    have hv' : v = .int (a + (i : Int)) := by
      unfold rangeL at hv
      rw [List.getElem?_map, List.getElem?_range hlt] at hv
      simp at hv; exact hv.symm
    refine (Walks.range hh I a 1 (b - a).toNat).item i s Q E hlt st fun x' h' tk hP hst hk => ?_
    obtain ⟨t, rfl⟩ := hP
    have hk' : ∀ b o, b ≠ I → s.heap.get? b = some o → h'.get? b = some o := fun b o hb e => hk b o (by simpa using hb) e
    refine hQ _ h' tk ?_ hst hk'
    rw [hv', Int.mul_one]
    exact .int _ _
  done := fun μ s Q E st R lv hQ => by
    have e : (rangeL a b).length = (b - a).toNat := by simp [rangeL]
    rw [e] at st
    refine (Walks.range hh I a 1 (b - a).toNat).done s Q E st fun h' tk hk => ?_
    exact hQ h' tk fun b o hb e => hk b o (by simpa using hb) e

/-- the frame, when an iterator is changed -/
theorem FR.touch {ev : PySem.Env} {tbl : Tbl} {env : Env} {μ : Mem} {H H' : Heap} {I : Addr} (F : FR cx ev tbl env μ H) (R : Rel cx μ H) (hI : ∃ o T, H.get? I = some o ∧ o.cls = .type T ∧ T ≠ "tuple") (hno : ¬ Own μ H I) (hb : cx.h₀.get? I = none) (hf : ¬ Fs ev I)
    (hk : ∀ b o, b ≠ I → H.get? b = some o → H'.get? b = some o) : FR cx ev tbl env μ H' ∧ ¬ Own μ H' I := by
  have kt := keepT_but hI hk
  have kr := keepR_but hI hk
  obtain ⟨R', own⟩ := R.mono (H' := H') (fun b ob hb' h => hk b ob (fun e => by
      subst e
      rcases h with h | h
      · exact hno h
      · rw [hb] at h; cases h) hb') kt kr
  have keep : ∀ a o, Fs ev a → H.get? a = some o → H'.get? a = some o := fun a o h e => hk a o (fun e' => hf (e' ▸ h)) e
  refine ⟨⟨F.kind, F.glob, F.bi, ?_, fun x i h => ?_, fun a ha => ?_, F.cinj, F.lnc, F.tinj⟩, fun h => hno ((own I).mp h)⟩
  · obtain ⟨m, ⟨o, es, ep, ho, r⟩, hv⟩ := F.ns
    exact ⟨m, ⟨o, es, ep, keep _ _ (.inl rfl) ho, r⟩, fun x i v h1 h2 h3 => let ⟨y, a, b⟩ := hv x i v h1 h2 h3; ⟨y, a, b.mono kt kr⟩⟩
  · rcases F.dom x i h with q | ⟨q, c, u, h1, ⟨o, ho, hd⟩, h3⟩
    · exact .inl q
    · exact .inr ⟨q, c, u, h1, ⟨o, keep _ _ (.inr ⟨x, h1⟩) ho, hd⟩, fun v hv => let ⟨y, a, b⟩ := h3 v hv; ⟨y, a, b.mono kt kr⟩⟩
  · obtain ⟨h1, h2, o, ho, hc⟩ := F.apart a ha
    exact ⟨fun q => h1 ((own a).mp q), h2, o, keep _ _ ha ho, hc⟩

def FlRep (cx : Cx) (H : Heap) : Mine.Flow → PySem.Flow → Prop
  | .next, .next => True
  | .cont, .cont => True
  | .brk, .brk => True
  | .ret v, .ret x => VRep cx H v x
  | _, _ => False

def PostS (cx : Cx) (ev : PySem.Env) (tbl : Tbl) (μ : Mem) (s : Shared) (Q : SQ) (f : PySem.Flow) (s' : Shared) : Prop :=
  ∃ fl env' μ', FlRep cx s'.heap fl f ∧ FR cx ev tbl env' μ' s'.heap ∧ Step cx (Fs ev) μ s.heap μ' s'.heap ∧ Same s s' ∧ Q fl env' μ'

theorem PostS.trans {ev : PySem.Env} {tbl : Tbl} {μ μ₁ : Mem} {s s₁ s' : Shared} {Q : SQ} {f : PySem.Flow} (S : Step cx (Fs ev) μ s.heap μ₁ s₁.heap) (m : Same s s₁) (h : PostS cx ev tbl μ₁ s₁ Q f s') : PostS cx ev tbl μ s Q f s' :=
  let ⟨fl, env', μ', a, b, c, d, e⟩ := h; ⟨fl, env', μ', a, b, S.trans c, m.trans d, e⟩

theorem Step.toFs {ev : PySem.Env} {μ μ' : Mem} {H H' : Heap} (S : Step cx F0 μ H μ' H') : Step cx (Fs ev) μ H μ' H' := S.weaken fun _ h => h.elim

/-- the walk of a for -/
theorem forLoop_sound {ev : PySem.Env} {tbl : Tbl} {I : Addr} {src : Src} {items : List Val} {St : Nat → Heap → Prop} (W : Iter cx A I src items St) {target : PySem.Expr} {body : List Stmt} {bodyM : Val → Env → Mem → SQ → Prop}
    (ht : ∀ v, letOwnedTupleGo target (.ref I) v = pure ())
    (hbody : ∀ v x env μ s Q, FR cx ev tbl env μ s.heap → Rel cx μ s.heap → VRep cx s.heap v x → bodyM v env μ Q → wpAny cx.M A (assign target ev x) (fun _ s₂ => wpAny cx.M A (execs body ev) (PostS cx ev tbl μ s Q) E0 s₂) E0 s)
    {μ₀ μ : Mem} {s₀ s : Shared} {env : Env} {Q : SQ} (R₀ : Rel cx μ₀ s₀.heap) (hI : s₀.heap.get? I = none) (hfs : ¬ Fs ev I) (F : FR cx ev tbl env μ s.heap) (S : Step cx (Fs ev) μ₀ s₀.heap μ s.heap) (hm : Same s₀ s) (st : St 0 s.heap) (hno : ¬ Own μ s.heap I)
    (lv : live src μ) (hw : forLoop bodyM src items env μ Q) :
    codeAny cx.M A (.forLoop target (.ref I) body [] ev) (fun r s' => match r with | .ok f => PostS cx ev tbl μ₀ s₀ Q f s' | .error _ => False) s := by
  have hb : cx.h₀.get? I = none := by
    cases q : cx.h₀.get? I with
    | none => rfl
    | some o => rw [R₀.base I o q] at hI; cases hI
  refine codeAny_forLoop (fun n s' => ∃ i env' μ', n = items.length + 1 - i ∧ i ≤ items.length ∧ St i s'.heap ∧ FR cx ev tbl env' μ' s'.heap ∧ Step cx (Fs ev) μ₀ s₀.heap μ' s'.heap ∧ Same s₀ s' ∧ live src μ' ∧ ¬ Own μ' s'.heap I ∧ forLoop bodyM src (items.drop i) env' μ' Q) ?_ (items.length + 1) ⟨0, env, μ, rfl, Nat.zero_le _, st, F, S, hm, lv, hno, by simpa using hw⟩ ht
  rintro n s' ⟨i, env', μ', hn, hi, st, F, S, hm, lv, hno, hw⟩
  have ty := W.typ i _ st
  by_cases hlt : i < items.length
  · have hv : items[i]? = some items[i] := List.getElem?_eq_getElem hlt
    refine W.item i μ' s' items[i] _ _ hv st S.rel lv fun x h' tk hx st' hk => ?_
    rw [List.drop_eq_getElem_cons hlt] at hw
    simp only [forLoop] at hw
    obtain ⟨F', hno'⟩ := F.touch S.rel ty hno hb hfs hk
    have S' : Step cx (Fs ev) μ₀ s₀.heap μ' h' := Step.touch R₀ S hI hno (fun o ho => by obtain ⟨o', T, a, b, c⟩ := ty; rw [ho] at a; cases a; exact ⟨T, b, c⟩) hk
    refine wpAny_mono (hbody _ x env' μ' { s' with heap := h', toks := tk } _ F' S'.rel hx hw) (fun _ s₂ h₂ => wpAny_mono h₂ (fun f s₃ h₃ => ?_) fun _ _ e => e.elim) fun _ _ e => e.elim
    obtain ⟨fl, env'', μ'', g1, g2, g3, g4, g5⟩ := h₃
    obtain ⟨oI, _, hoI, _⟩ := W.typ _ _ st'
    have st₃ : St (i + 1) s₃.heap := W.frame _ _ _ st' (fun o ho => g3.keep I o ho hno' hfs) g3.tup g3.cls.r
    have hno₃ : ¬ Own μ'' s₃.heap I := fun q => by
      rcases g3.own I q with q | q
      · exact hno' q
      · rw [hoI] at q; cases q
    have S₃ := S'.trans g3
    have m₃ : Same s₀ s₃ := hm.trans ⟨g4.1, g4.2⟩
    cases fl <;> cases f <;> simp only [FlRep] at g1 <;> simp only at g5
    · exact ⟨n - 1, by omega, i + 1, env'', μ'', by omega, hlt, st₃, g2, S₃, m₃, g5.1, hno₃, g5.2⟩
    · exact ⟨n - 1, by omega, i + 1, env'', μ'', by omega, hlt, st₃, g2, S₃, m₃, g5.1, hno₃, g5.2⟩
    · exact ⟨.next, _, _, trivial, g2, S₃, m₃, g5⟩
    · exact ⟨.ret _, _, _, g1, g2, S₃, m₃, g5⟩
  · have hi' : i = items.length := by omega
    subst hi'
    refine W.done μ' s' _ _ st S.rel lv fun h' tk hk => ?_
    obtain ⟨F', hno'⟩ := F.touch S.rel ty hno hb hfs hk
    have S' : Step cx (Fs ev) μ₀ s₀.heap μ' h' := Step.touch R₀ S hI hno (fun o ho => by obtain ⟨o', T, a, b, c⟩ := ty; rw [ho] at a; cases a; exact ⟨T, b, c⟩) hk
    rw [List.drop_length] at hw
    simp only [forLoop] at hw
    exact wpAny_execs_nil ⟨.next, env', μ', trivial, F', S', ⟨hm.1, hm.2⟩, hw⟩

/-- a while -/
theorem whileLoop_sound {ev : PySem.Env} {tbl : Tbl} {test : PySem.Expr} {body : List Stmt} {testM : Env → Mem → (Bool → Mem → Prop) → Prop} {bodyM : Env → Mem → SQ → Prop}
    (htest : ∀ env μ s Q, FR cx ev tbl env μ s.heap → Rel cx μ s.heap → testM env μ Q → wpAny cx.M A (isTrue test ev (eval test ev)) (PostB cx μ s Q) E0 s)
    (hbody : ∀ env μ s Q, FR cx ev tbl env μ s.heap → Rel cx μ s.heap → bodyM env μ Q → wpAny cx.M A (execs body ev) (PostS cx ev tbl μ s Q) E0 s)
    {μ : Mem} {s : Shared} {env : Env} {Q : SQ} (F : FR cx ev tbl env μ s.heap) (R : Rel cx μ s.heap) (hw : whileLoop testM bodyM env μ Q) :
    codeAny cx.M A (.whileLoop test body [] ev) (fun r s' => match r with | .ok f => PostS cx ev tbl μ s Q f s' | .error _ => False) s := by
  obtain ⟨I, ⟨n₀, h0⟩, step⟩ := hw
  refine codeAny_whileLoop (fun n s' => ∃ env' μ', I n env' μ' ∧ FR cx ev tbl env' μ' s'.heap ∧ Step cx (Fs ev) μ s.heap μ' s'.heap ∧ Same s s') ?_ n₀ ⟨env, μ, h0, F, Step.refl R, ⟨rfl, rfl⟩⟩
  rintro n s' ⟨env', μ', hI, F', S, hm⟩
  refine wpAny_mono (htest env' μ' s' _ F' S.rel (step n env' μ' hI)) (fun b s₂ ⟨μ₂, a1, a2, a3⟩ => ?_) fun _ _ e => e.elim
  have F₂ := F'.step a1
  have S₂ := S.trans a1.toFs
  cases b with
  | false => exact wpAny_execs_nil ⟨.next, env', μ₂, trivial, F₂, S₂, hm.trans a2, a3⟩
  | true =>
    simp only [if_true]
    refine wpAny_mono (hbody env' μ₂ s₂ _ F₂ a1.rel a3) (fun f s₃ h₃ => ?_) fun _ _ e => e.elim
    obtain ⟨fl, env'', μ'', g1, g2, g3, g4, g5⟩ := h₃
    have S₃ := S₂.trans g3
    have m₃ : Same s s₃ := (hm.trans a2).trans g4
    cases fl <;> cases f <;> simp only [FlRep] at g1 <;> simp only at g5
    · obtain ⟨m, hm', hI'⟩ := g5; exact ⟨m, hm', env'', μ'', hI', g2, S₃, m₃⟩
    · obtain ⟨m, hm', hI'⟩ := g5; exact ⟨m, hm', env'', μ'', hI', g2, S₃, m₃⟩
    · exact ⟨.next, _, _, trivial, g2, S₃, m₃, g5⟩
    · exact ⟨.ret _, _, _, g1, g2, S₃, m₃, g5⟩
end
end Mine

-- part MiniO
namespace Mine
open PySem PyProof.Rows

theorem chkIt_range {sc : PySem.Scope} {tbl : Tbl} {args : List ME} {it : PySem.Expr} (h : chkIt sc tbl .range args it = true) : ∃ p as q, it = .Call (.Name (Str.ofString "range") p) as [] q ∧ isGlob sc (Str.ofString "range") = true ∧ chkEs sc tbl args as = true := by
  obtain ⟨as, h1, h2⟩ := any_some h
  unfold itArgs at h1
  cases hn : nCall it with
  | none => rw [hn] at h1; cases h1
  | some x =>
    rw [hn] at h1
    simp only [Option.bind_some] at h1
    split at h1
    · rename_i hc
      rw [Bool.and_eq_true, beq_iff_eq] at hc
      cases h1
      obtain ⟨p, q, rfl, hl⟩ := nCall_eq hn
      have g2 := hc.2
      rw [hc.1] at g2
      exact ⟨_, _, _, by rw [hc.1], g2, h2⟩
    · cases h1

/-- an iterator that was just made -/
structure Made (cx : Cx) (A : Around) (μ : Mem) (s : Shared) (K : Src → List Val → Mem → Prop) (y : Value) (s₂ : Shared) : Prop where
  ex : ∃ I src items St μ₁, y = .ref I ∧ Iter cx A I src items St ∧ St 0 s₂.heap ∧ Step cx F0 μ s.heap μ₁ s₂.heap ∧ Same s s₂ ∧ s.heap.get? I = none ∧ ¬ Own μ₁ s₂.heap I ∧ live src μ₁ ∧ K src items μ₁

theorem size_none {H : Heap} : H.get? H.objs.size = none := by
  cases q : H.get? H.objs.size with
  | none => rfl
  | some o => exact absurd (Heap.lt_size q) (Nat.lt_irrefl _)

theorem Step.none_before {cx : Cx} {F : Addr → Prop} {μ μ' : Mem} {H H' : Heap} (S : Step cx F μ H μ' H') {a : Addr} (h : H'.get? a = none) : H.get? a = none := by
  cases q : H.get? a with
  | none => rfl
  | some o => obtain ⟨o', h', _⟩ := S.cls a o q; rw [h] at h'; cases h'

theorem own_push {cx : Cx} {μ : Mem} {H : Heap} {o : Obj} (R : Rel cx μ H) : ¬ Own μ (H.push o) H.objs.size := fun h => by
  have S := Step.grow (F := F0) (H' := H.push o) R fun _ _ e => Heap.get?_push_of_some _ e
  obtain ⟨_, own⟩ := R.mono (H' := H.push o) (fun b ob hb _ => Heap.get?_push_of_some _ hb) (KeepT.of fun _ _ e => Heap.get?_push_of_some _ e) (KeepR.of fun _ _ e => Heap.get?_push_of_some _ e)
  obtain ⟨o', h', _⟩ := R.own_some ((own _).mp h)
  rw [size_none] at h'; cases h'

section
variable {cx : Cx} {C : CT} {n : Nat} (ok : CxOK cx) (hC : CallSound cx C n) {ev : PySem.Env} {tbl : Tbl}

theorem pyIter_val {A : Around} {μ : Mem} {s : Shared} {v : Val} {x : Value} {K : Src → List Val → Mem → Prop} (hh : A.handled = none) (R : Rel cx μ s.heap) (hv : VRep cx s.heap v x) (h : itSrc .val [v] μ fun src items => K src items μ) :
    wpAny cx.M A (pyIter x) (Made cx A μ s K) E0 s := by
  have grow : ∀ o, Step cx F0 μ s.heap μ (s.heap.push o) := fun o => Step.grow R fun _ _ e => Heap.get?_push_of_some _ e
  cases hv with
  | ref a =>
    simp only [itSrc] at h
    split at h
    · rename_i xs e
      obtain ⟨items, n, l, r, z⟩ := R.rep _ _ e
      exact wpAny_pyIter_list l.isList ⟨_, _, _, _, μ, rfl, Iter.list hh, ⟨_, Heap.get?_push_size _ rfl, rfl, rfl⟩, grow _, ⟨rfl, rfl⟩, size_none, own_push R, e, h⟩
    · exact h.elim
  | none => exact h.elim
  | bool _ => exact h.elim
  | int _ _ => exact h.elim
  | str _ _ _ => exact h.elim

theorem boot_range : bootOf (Str.ofString "range") = some (.type "range") := by decide +kernel

theorem pyIter_range' {A : Around} {μ : Mem} {s : Shared} {r : Addr} {a b : Int} {t u v : Tok} {K : Src → List Val → Mem → Prop} (hh : A.handled = none) (R : Rel cx μ s.heap) (hr : IsRange s.heap r a b 1 t u v) (ha : -1000000 ≤ a ∧ a ≤ 1000000 ∧ -1000000 ≤ b ∧ b ≤ 1000000)
    (h : K none (rangeL a b) μ) : wpAny cx.M A (pyIter (.ref r)) (Made cx A μ s K) E0 s := by
  have grow : ∀ o, Step cx F0 μ s.heap μ (s.heap.push o) := fun o => Step.grow R fun _ _ e => Heap.get?_push_of_some _ e
  refine wpAny_pyIter_range hr (small_one (by omega) (by omega) (by omega) (by omega)) ⟨_, _, _, _, μ, rfl, Iter.range hh a b, ?_, grow _, ⟨rfl, rfl⟩, size_none, own_push R, trivial, h⟩
  have hsz : Builtin.Range.rangeSize a b 1 = ((b - a).toNat : Int) := by rw [rangeSize_one]; split <;> omega
  have e1 : (a + ((0 : Nat) : Int) * 1) = a := by simp
  have e2 : (((b - a).toNat : Int) - ((0 : Nat) : Int)) = Builtin.Range.rangeSize a b 1 := by rw [hsz]; simp
  show IsRangeIter _ _ (a + ((0 : Nat) : Int) * 1) (((b - a).toNat : Int) - ((0 : Nat) : Int)) 1
  rw [e1, e2]
  exact Heap.get?_push_size _ rfl

theorem Made.trans {A : Around} {μ μ₁ : Mem} {s s₁ : Shared} {K : Src → List Val → Mem → Prop} {y : Value} {s₂ : Shared} (S : Step cx F0 μ s.heap μ₁ s₁.heap) (m : Same s s₁) (h : Made cx A μ₁ s₁ K y s₂) : Made cx A μ s K y s₂ := by
  obtain ⟨I, src, items, St, μ₂, h1, h2, h3, h4, h5, h6, h7, h8, h9⟩ := h
  exact ⟨I, src, items, St, μ₂, h1, h2, h3, S.trans h4, m.trans h5, S.none_before h6, h7, h8, h9⟩

def supIt (P : Prog) (k : ItK) (args : List ME) : Bool :=
  supEs P args

include ok hC in
theorem iter_sound {k : ItK} {args : List ME} {it : PySem.Expr} (hs : supIt cx.P k args = true) (hc : chkIt ev.scope tbl k args it = true) {A env μ s} {K : Src → List Val → Mem → Prop} (hA : RoomB n A) (F : FR cx ev tbl env μ s.heap) (R : Rel cx μ s.heap)
    (hw : wpEs cx.P C args env μ (fun vs μ₁ => itSrc k vs μ₁ fun src items => K src items μ₁) X0) :
    wpAny cx.M A (eval it ev) (fun x s₁ => wpAny cx.M A (pyIter x) (Made cx A μ s K) E0 s₁) E0 s := by
  unfold supIt at hs
  cases k with
  | val =>
    have hc : chkEs ev.scope tbl args [it] = true := hc
    cases args with
    | nil => cases hc
    | cons m r =>
      obtain ⟨x, r', e, h1, h2⟩ := chkEs_cons hc
      cases e
      cases r with
      | cons _ _ => cases h2
      | nil =>
        have hs2 := hs
        simp only [supEs, Bool.and_true] at hs2
        simp only [wpEs] at hw
        refine wp_then (soundE ok hC m it hs2 h1 A env μ s _ hA F R hw) fun v s₁ v' μ₁ a1 a2 a3 a4 => ?_
        exact wpAny_mono (pyIter_val hA.1 a2.rel a1 a4) (fun y s₂ h => Made.trans a2 a3 h) fun _ _ e => e
  | range =>
    obtain ⟨p, as, q, rfl, h1, h3⟩ := chkIt_range hc
    refine wp_call_name h3 (load_boot ok R F h1 boot_range ?_)
    refine callWith_args (.inr (.inl ⟨_, rfl⟩)) (soundEs ok hC args as hs h3 A env μ s _ hA F R hw) fun ys s₁ vs μ₁ a1 a2 a3 a4 => ?_
    have grow : ∀ o, Step cx F0 μ₁ s₁.heap μ₁ (s₁.heap.push o) := fun o => Step.grow a2.rel fun _ _ e => Heap.get?_push_of_some _ e
    unfold itSrc at a4
    split at a4 <;> (try cases ‹ItK.range = _›) <;> (try exact a4.elim)
    · obtain ⟨_, rfl, hv⟩ := a1.one
      cases hv
      refine call_range_1 ?_
      exact wpAny_mono (pyIter_range' (μ := μ₁) hA.1 (grow _).rel (IsRange.new ..) (by omega) a4.2) (fun y s₂ h => Made.trans (a2.trans (grow _)) (s₁ := { s₁ with heap := _, toks := _ }) ⟨a3.1, a3.2⟩ h) fun _ _ e => e
    · obtain ⟨_, _, rfl, hv, hv'⟩ := a1.two
      cases hv
      cases hv'
      refine call_range_2 ?_
      exact wpAny_mono (pyIter_range' (μ := μ₁) hA.1 (grow _).rel (IsRange.new ..) (by omega) a4.2) (fun y s₂ h => Made.trans (a2.trans (grow _)) (s₁ := { s₁ with heap := _, toks := _ }) ⟨a3.1, a3.2⟩ h) fun _ _ e => e
end
end Mine

-- part MiniP
namespace Mine
open PySem PyProof.Rows

mutual
def supS (P : Prog) : MS → Bool
  | .expr e => supE P e
  | .asg _ e => supE P e
  | .asgIdx o i e => supE P o && supE P i && supE P e
  | .ite t a b => supE P t && supSs P a && supSs P b
  | .while t b => supE P t && supSs P b
  | .for xs k args b => decide (xs.length = 1) && supIt P k args && supSs P b
  | .ret e => supE P e
  | .pass => true
def supSs (P : Prog) : List MS → Bool
  | [] => true
  | s :: ss => supS P s && supSs P ss
end

section
variable {sc : PySem.Scope} {tbl : Tbl}
theorem chkSs_cons {m : MS} {ms xs} (h : chkSs sc tbl (m :: ms) xs = true) : ∃ x r, xs = x :: r ∧ chkS sc tbl m x = true ∧ chkSs sc tbl ms r = true := by
  cases xs with
  | nil => cases h
  | cons x xs => rw [chkSs, Bool.and_eq_true] at h; exact ⟨_, _, rfl, h.1, h.2⟩
theorem chkSs_nil {xs} (h : chkSs sc tbl [] xs = true) : xs = [] := by
  rw [chkSs] at h
  exact List.isEmpty_iff.mp h
variable {st : Stmt}
theorem sExpr_eq {x} (h : sExpr st = some x) : ∃ p, st = .Expr x p := by
  cases st <;> first | (cases h; done) | (cases h; exact ⟨_, rfl⟩)
theorem sAssign_eq {x} (h : sAssign st = some x) : ∃ p, st = .Assign [x.1] x.2 p := by
  cases st <;> first | (cases h; done) | skip
  rename_i ts v p
  have h : (one ts).map (fun t => (t, v)) = some x := h
  cases ho : one ts with
  | none => rw [ho] at h; cases h
  | some t => rw [ho] at h; cases h; exact ⟨p, by rw [one_eq ho]⟩
theorem sIf_eq {x} (h : sIf st = some x) : ∃ p, st = .If x.1 x.2.1 x.2.2 p := by
  cases st <;> first | (cases h; done) | (cases h; exact ⟨_, rfl⟩)
theorem sWhile_eq {x} (h : sWhile st = some x) : ∃ p, st = .While x.1 x.2.1 x.2.2 p := by
  cases st <;> first | (cases h; done) | (cases h; exact ⟨_, rfl⟩)
theorem sFor_eq {x} (h : sFor st = some x) : ∃ p, st = .For x.1 x.2.1 x.2.2.1 x.2.2.2 p := by
  cases st <;> first | (cases h; done) | (cases h; exact ⟨_, rfl⟩)
theorem sRet_eq {x} (h : sRet st = some x) : ∃ p, st = .Return (some x) p := by
  cases st <;> first | (cases h; done) | (cases h; exact ⟨_, rfl⟩)
theorem chkS_expr {e} (h : chkS sc tbl (.expr e) st = true) : ∃ x p, st = .Expr x p ∧ isComp x = false ∧ chkE sc tbl e x = true := by
  rw [chkS] at h
  have g' := any_some h; clear h; obtain ⟨x, h1, h⟩ := g'
  obtain ⟨p, rfl⟩ := sExpr_eq h1
  rw [Bool.and_eq_true, Bool.not_eq_true'] at h
  exact ⟨_, _, rfl, h.1, h.2⟩
theorem tgt1_of {i : Nat} {t : PySem.Expr} (h : tgt1 tbl sc i t = true) : ∃ id p, t = .Name id p ∧ tbl.lookup id = some i := by
  unfold tgt1 at h
  have g' := any_some h; clear h; obtain ⟨x, h1, h⟩ := g'
  obtain ⟨p, rfl⟩ := vName_eq h1
  rw [Bool.and_eq_true, beq_iff_eq] at h
  exact ⟨_, _, rfl, h.1⟩
theorem chkS_asg {i e} (h : chkS sc tbl (.asg i e) st = true) : ∃ id p v q, st = .Assign [.Name id p] v q ∧ tbl.lookup id = some i ∧ chkE sc tbl e v = true := by
  rw [chkS] at h
  have g' := any_some h; clear h; obtain ⟨x, h1, h⟩ := g'
  obtain ⟨q, rfl⟩ := sAssign_eq h1
  rw [Bool.and_eq_true] at h
  obtain ⟨id, p, e1, h2⟩ := tgt1_of h.1
  exact ⟨_, _, _, _, by rw [e1], h2, h.2⟩
theorem chkS_asgIdx {o i e} (h : chkS sc tbl (.asgIdx o i e) st = true) : ∃ a b p v q, st = .Assign [.Subscript a b p] v q ∧ chkE sc tbl e v = true ∧ chkE sc tbl o a = true ∧ chkE sc tbl i b = true := by
  rw [chkS] at h
  have g' := any_some h; clear h; obtain ⟨x, h1, h⟩ := g'
  have g' := any_some h; clear h; obtain ⟨y, h2, h⟩ := g'
  obtain ⟨q, rfl⟩ := sAssign_eq h1
  obtain ⟨p, e1⟩ := vSub_eq h2
  rw [Bool.and_eq_true, Bool.and_eq_true] at h
  exact ⟨_, _, _, _, _, by rw [e1], h.1.1, h.1.2, h.2⟩
theorem chkS_ite {t a b} (h : chkS sc tbl (.ite t a b) st = true) : ∃ e x y p, st = .If e x y p ∧ chkE sc tbl t e = true ∧ chkSs sc tbl a x = true ∧ chkSs sc tbl b y = true := by
  rw [chkS] at h
  have g' := any_some h; clear h; obtain ⟨x, h1, h⟩ := g'
  obtain ⟨q, rfl⟩ := sIf_eq h1
  rw [Bool.and_eq_true, Bool.and_eq_true] at h
  exact ⟨_, _, _, _, rfl, h.1.1, h.1.2, h.2⟩
theorem chkS_while {t b} (h : chkS sc tbl (.while t b) st = true) : ∃ e x p, st = .While e x [] p ∧ chkE sc tbl t e = true ∧ chkSs sc tbl b x = true := by
  rw [chkS] at h
  have g' := any_some h; clear h; obtain ⟨x, h1, h⟩ := g'
  obtain ⟨q, rfl⟩ := sWhile_eq h1
  rw [Bool.and_eq_true, Bool.and_eq_true, List.isEmpty_iff] at h
  exact ⟨_, _, _, by rw [h.1.1], h.1.2, h.2⟩
theorem chkS_for {i k args b} (h : chkS sc tbl (.for [i] k args b) st = true) : ∃ id p it x q, st = .For (.Name id p) it x [] q ∧ tbl.lookup id = some i ∧ chkIt sc tbl k args it = true ∧ chkSs sc tbl b x = true := by
  rw [chkS] at h
  have g' := any_some h; clear h; obtain ⟨x, h1, h⟩ := g'
  obtain ⟨q, rfl⟩ := sFor_eq h1
  rw [Bool.and_eq_true, Bool.and_eq_true, Bool.and_eq_true, List.isEmpty_iff] at h
  obtain ⟨⟨⟨g1, g2⟩, g3⟩, g4⟩ := h
  have g2 : tgt1 tbl sc i x.1 = true := g2
  obtain ⟨id, p, e1, h2⟩ := tgt1_of g2
  exact ⟨_, _, _, _, _, by rw [e1, g1], h2, g3, g4⟩
theorem chkS_ret {e} (h : chkS sc tbl (.ret e) st = true) : ∃ x p, st = .Return (some x) p ∧ chkE sc tbl e x = true := by
  rw [chkS] at h
  have g' := any_some h; clear h; obtain ⟨x, h1, h⟩ := g'
  obtain ⟨q, rfl⟩ := sRet_eq h1
  exact ⟨_, _, rfl, h⟩
theorem chkS_pass (h : chkS sc tbl .pass st = true) : ∃ p, st = .Pass p := by
  rw [chkS] at h
  cases st <;> first | (cases h; done) | exact ⟨_, rfl⟩
theorem sup_notComp {P : Prog} {m : ME} {e : PySem.Expr} (hs : supE P m = true) (h : chkE sc tbl m e = true) : isComp e = false := by
  cases m with
  | lit v => obtain ⟨_, _, _, rfl, _⟩ := chk_lit h; rfl
  | var i => obtain ⟨_, _, rfl, _⟩ := chk_var h; rfl
  | bin op a b => obtain ⟨_, _, _, _, rfl, _⟩ := chk_bin h; rfl
  | neg a => obtain ⟨_, _, rfl, _⟩ := chk_neg h; rfl
  | not a => obtain ⟨_, _, rfl, _⟩ := chk_not h; rfl
  | cmp op a b => obtain ⟨_, _, _, _, rfl, _⟩ := chk_cmp h; rfl
  | bool b es => obtain ⟨_, _, rfl, _⟩ := chk_bool h; rfl
  | idx a i => obtain ⟨_, _, _, rfl, _⟩ := chk_idx h; rfl
  | slice a l k => obtain ⟨_, _, _, _, _, rfl, _⟩ := chk_slice h; rfl
  | call f as => obtain ⟨_, _, _, rfl, _⟩ := chk_call h; rfl
  | meth o m k as => obtain ⟨_, _, _, _, rfl, _⟩ := chk_meth h; rfl
  | bi b as => obtain ⟨_, _, _, rfl⟩ := chk_biCall h; rfl
  | isinst a t => obtain ⟨_, _, _, _, rfl, _⟩ := chk_isinst h; rfl
  | list es => obtain ⟨_, _, rfl, _⟩ := chk_list h; rfl
  | dict tk kvs => obtain ⟨_, _, _, rfl, _⟩ := chk_dict h; rfl
theorem swaps_notComp {value : PySem.Expr} {t : Option PySem.Expr} {l : Nat} {env : PySem.Env} (h : isComp value = false) : swapsWith value t l env = pure false := by
  cases value <;> first | rfl | (simp [isComp] at h)
theorem swaps_sub {value a b : PySem.Expr} {p : Pos} {l : Nat} {env : PySem.Env} : swapsWith value (some (.Subscript a b p)) l env = pure false := by
  cases value <;> rfl
theorem it_notSet {k : ItK} {args : List ME} {it : PySem.Expr} {env : PySem.Env} (h : chkIt sc tbl k args it = true) : ∀ x, foldedSetIterable it env x = pure x := by
  have ho : odd it = false := by
    obtain ⟨as, h1, h2⟩ := any_some h
    have call : ∀ y, nCall it = some y → odd it = false := fun y hy => by obtain ⟨_, _, rfl, _⟩ := nCall_eq hy; rfl
    cases k with
    | val =>
      cases h1
      cases args with
      | nil => cases h2
      | cons m r => obtain ⟨x, r', e, h1, h2⟩ := chkEs_cons h2; cases e; exact chk_odd h1
    | range =>
      cases hn : nCall it with
      | some y => exact call y hn
      | none => unfold itArgs at h1; rw [hn] at h1; cases h1
  intro x
  cases it <;> first | rfl | (cases ho; done)
end

abbrev XS0 : Str → Env → Mem → Prop := fun _ _ _ => False

section
variable {cx : Cx} {C : CT} {n : Nat} (ok : CxOK cx) (hC : CallSound cx C n) {ev : PySem.Env} {tbl : Tbl} (hnf : ∀ x, ev.kindOf x ≠ some .free)

theorem postS_of {μ μ' : Mem} {s s' : Shared} {env : Env} {Q : SQ} (F : FR cx ev tbl env μ' s'.heap) (S : Step cx (Fs ev) μ s.heap μ' s'.heap) (m : Same s s') (h : Q .next env μ') : PostS cx ev tbl μ s Q .next s' :=
  ⟨.next, env, μ', trivial, F, S, m, h⟩

include ok hC hnf in
mutual
theorem soundS : ∀ (m : MS) (st : Stmt), supS cx.P m = true → chkS ev.scope tbl m st = true → ∀ A env μ s Q, RoomB n A → FR cx ev tbl env μ s.heap → Rel cx μ s.heap → wpS cx.P C m env μ Q XS0 → wpAny cx.M A (exec st ev) (PostS cx ev tbl μ s Q) E0 s
  | .expr e, st, hs, hc, A, env, μ, s, Q, hA, F, R, hw => by
    obtain ⟨x, p, rfl, h1, h2⟩ := chkS_expr hc
    simp only [supS] at hs
    simp only [wpS] at hw
    refine wpAny_Expr_any (wp_then (soundE ok hC e x hs h2 A env μ s _ hA F R hw) fun v s₁ v' μ₁ a1 a2 a3 a4 => ?_) (by unfold interactive; rw [F.kind]; rfl) (swaps_notComp h1)
    exact postS_of (F.step a2) a2.toFs a3 a4
  | .asg i e, st, hs, hc, A, env, μ, s, Q, hA, F, R, hw => by
    obtain ⟨id, p, v, q, rfl, h1, h2⟩ := chkS_asg hc
    simp only [supS] at hs
    simp only [wpS] at hw
    refine wpAny_Assign_Name (wp_then (soundE ok hC e v hs h2 A env μ s _ hA F R hw) fun v s₁ v' μ₁ a1 a2 a3 a4 => ?_) (swaps_notComp (sup_notComp hs h2))
    exact store_var (F.step a2) a2.rel h1 (hnf id) a1 fun s' F' S' m' => postS_of F' (a2.toFs.trans S') (a3.trans m') a4
  | .asgIdx o i e, st, hs, hc, A, env, μ, s, Q, hA, F, R, hw => by
    obtain ⟨a, b, p, v, q, rfl, h1, h2, h3⟩ := chkS_asgIdx hc
    simp only [supS, Bool.and_eq_true] at hs
    simp only [wpS] at hw
    refine wpAny_Assign_Subscript (wp_then (soundE ok hC e v hs.2 h1 A env μ s _ hA F R hw) fun v s₁ v' μ₁ a1 a2 a3 a4 => ?_) swaps_sub
    refine wp_then (soundE ok hC o a hs.1.1 h2 A env μ₁ s₁ _ hA (F.step a2) a2.rel a4) fun v2 s₂ v2' μ₂ b1 b2 b3 b4 => ?_
    refine wp_then (soundE ok hC i b hs.1.2 h3 A env μ₂ s₂ _ hA ((F.step a2).step b2) b2.rel b4) fun v3 s₃ v3' μ₃ c1 c2 c3 c4 => ?_
    refine wpAny_mono (wpSetIdx_sound hA.units c2.rel (c2.v b1) c1 (c2.v (b2.v a1)) c4) (fun _ s₄ ⟨μ₄, d1, d2, d3⟩ => ?_) fun _ _ e => e
    exact postS_of ((((F.step a2).step b2).step c2).step d1) (a2.trans (b2.trans (c2.trans d1))).toFs (a3.trans (b3.trans (c3.trans d2))) d3
  | .ite t a b, st, hs, hc, A, env, μ, s, Q, hA, F, R, hw => by
    obtain ⟨e, x, y, p, rfl, h1, h2, h3⟩ := chkS_ite hc
    simp only [supS, Bool.and_eq_true] at hs
    simp only [wpS] at hw
    refine wpAny_If (wpAny_mono (soundT ok hC t e hs.1.1 h1 A env μ s _ hA F R hw) (fun r s₁ ⟨μ₁, a1, a2, a3⟩ => ?_) fun _ _ e => e)
    cases r with
    | true => exact wpAny_mono (soundSs a x hs.1.2 h2 A env μ₁ s₁ Q hA (F.step a1) a1.rel a3) (fun f s₂ h => PostS.trans a1.toFs a2 h) fun _ _ e => e
    | false => exact wpAny_mono (soundSs b y hs.2 h3 A env μ₁ s₁ Q hA (F.step a1) a1.rel a3) (fun f s₂ h => PostS.trans a1.toFs a2 h) fun _ _ e => e
  | .while t b, st, hs, hc, A, env, μ, s, Q, hA, F, R, hw => by
    obtain ⟨e, x, p, rfl, h1, h2⟩ := chkS_while hc
    simp only [supS, Bool.and_eq_true] at hs
    simp only [wpS] at hw
    refine wpAny_While (codeAny_mono (whileLoop_sound (fun env μ s Q F R hw => soundT ok hC t e hs.1 h1 A env μ s Q hA F R hw) (fun env μ s Q F R hw => soundSs b x hs.2 h2 A env μ s Q hA F R hw) F R hw) fun r s' h => ?_)
    cases r with
    | ok f => exact h
    | error _ => exact h.elim
  | .for xs k args b, st, hs, hc, A, env, μ, s, Q, hA, F, R, hw => by
    simp only [supS, Bool.and_eq_true, decide_eq_true_eq] at hs
    obtain ⟨i, rfl⟩ : ∃ i, xs = [i] := by
      rcases xs with _ | ⟨i, _ | _⟩ <;> simp at hs
      exact ⟨i, rfl⟩
    obtain ⟨id, p, it, x, q, rfl, h1, h2, h3⟩ := chkS_for hc
    simp only [wpS] at hw
    refine wpAny_For (wpAny_mono (iter_sound ok hC (K := fun src items μ₁ => forLoop (fun v env μ K => bindT [i] v μ env fun env' => wpSs cx.P C b env' μ K XS0) src items env μ₁ Q) hs.1.2 h2 hA F R hw) (fun y s₁ h => wpAny_mono h (fun it' s₂ hm => ?_) fun _ _ e => e) fun _ _ e => e) (it_notSet h2)
    obtain ⟨I, src, items, St, μ₁, rfl, W, st, S, m, hI, hno, lv, hl⟩ := hm
    have hfs : ¬ Fs ev I := fun hf => by
      obtain ⟨_, _, o, ho, _⟩ := F.apart I hf
      rw [hI] at ho; cases ho
    refine codeAny_mono (forLoop_sound W (fun v => rfl) (fun v x' env μ s Q F R hv hb => ?_) R hI hfs (F.step S) S.toFs m st hno lv hl) fun r s' h => ?_
    · refine wpAny_assign_Name (store_var F R h1 (hnf id) hv fun s' F' S' m' => ?_)
      exact wpAny_mono (soundSs b x hs.2 h3 A _ μ s' Q hA F' S'.rel hb) (fun f s₂ h => PostS.trans S' m' h) fun _ _ e => e
    · cases r with
      | ok f => exact h
      | error _ => exact h.elim
  | .ret e, st, hs, hc, A, env, μ, s, Q, hA, F, R, hw => by
    obtain ⟨x, p, rfl, h1⟩ := chkS_ret hc
    simp only [supS] at hs
    simp only [wpS] at hw
    refine wpAny_Return_some (wp_then (soundE ok hC e x hs h1 A env μ s _ hA F R hw) fun v s₁ v' μ₁ a1 a2 a3 a4 => ?_)
    exact ⟨.ret v', env, μ₁, a1, F.step a2, a2.toFs, a3, a4⟩
  | .pass, st, hs, hc, A, env, μ, s, Q, hA, F, R, hw => by
    obtain ⟨p, rfl⟩ := chkS_pass hc
    simp only [wpS] at hw
    exact wpAny_Pass (postS_of F (Step.refl R) ⟨rfl, rfl⟩ hw)
theorem soundSs : ∀ (ms : List MS) (xs : List Stmt), supSs cx.P ms = true → chkSs ev.scope tbl ms xs = true → ∀ A env μ s Q, RoomB n A → FR cx ev tbl env μ s.heap → Rel cx μ s.heap → wpSs cx.P C ms env μ Q XS0 → wpAny cx.M A (execs xs ev) (PostS cx ev tbl μ s Q) E0 s
  | [], xs, _, hc, A, env, μ, s, Q, hA, F, R, hw => by
    rw [chkSs_nil hc]
    simp only [wpSs] at hw
    exact wpAny_execs_nil (postS_of F (Step.refl R) ⟨rfl, rfl⟩ hw)
  | m :: ms, xs, hs, hc, A, env, μ, s, Q, hA, F, R, hw => by
    obtain ⟨x, r, rfl, h1, h2⟩ := chkSs_cons hc
    simp only [supSs, Bool.and_eq_true] at hs
    simp only [wpSs] at hw
    refine wpAny_execs_cons (wpAny_mono (soundS m x hs.1 h1 A env μ s _ hA F R hw) (fun f s₁ h => ?_) fun _ _ e => e)
    obtain ⟨fl, env', μ', g1, g2, g3, g4, g5⟩ := h
    cases fl <;> cases f <;> simp only [FlRep] at g1 <;> simp only at g5
    · exact wpAny_mono (soundSs ms r hs.2 h2 A env' μ' s₁ Q hA g2 g3.rel g5) (fun f s₂ h => PostS.trans g3 g4 h) fun _ _ e => e
    · exact ⟨.cont, env', μ', trivial, g2, g3, g4, g5⟩
    · exact ⟨.brk, env', μ', trivial, g2, g3, g4, g5⟩
    · exact ⟨.ret _, env', μ', g1, g2, g3, g4, g5⟩
end
end
end Mine

-- part MiniQ
namespace Mine
open PySem PyProof.Rows

theorem lookup_zip {α : Type} : ∀ {ns : List Str} {vs : List α} {n : Str}, n ∈ ns → ns.length = vs.length → ((ns.zip vs).lookup n).isSome = true
  | k :: ns, v :: vs, n, h, e => by
    rw [List.zip_cons_cons, List.lookup_cons]
    cases hb : n == k with
    | true => rfl
    | false =>
      refine lookup_zip ?_ (by simpa using e)
      rcases List.mem_cons.mp h with rfl | h
      · simp at hb
      · exact h
theorem filterMap_zip {α : Type} : ∀ {ns : List Str} {vs : List α}, ns.Nodup → ns.length = vs.length → ∀ pre : List (Str × α), (∀ p ∈ pre, p.1 ∉ ns) → (ns.filterMap fun n => ((pre ++ ns.zip vs).lookup n).map (n, ·)) = ns.zip vs
  | [], [], _, _, _, _ => rfl
  | k :: ns, v :: vs, hn, e, pre, hp => by
    have lk : ∀ (pre : List (Str × α)) (r : List (Str × α)), (∀ p ∈ pre, p.1 ≠ k) → (pre ++ (k, v) :: r).lookup k = some v := by
      intro pre
      induction pre with
      | nil => intro r _; simp
      | cons p pre ih =>
        intro r h
        obtain ⟨pk, pv⟩ := p
        rw [List.cons_append, List.lookup_cons]
        have : (k == pk) = false := by
          have := h (pk, pv) (.head _)
          simpa using fun e => this e.symm
        rw [this]
        exact ih r fun p hp => h p (.tail _ hp)
    rw [List.filterMap_cons, List.zip_cons_cons, lk pre _ fun p hp' e => hp p hp' (e ▸ .head _)]
    simp only [Option.map_some, List.cons.injEq, true_and]
    have hn' := List.nodup_cons.mp hn
    have := filterMap_zip hn'.2 (by simpa using e) (pre ++ [(k, v)]) (fun p hp' => by
      rcases List.mem_append.mp hp' with h | h
      · exact fun q => hp p h (.tail _ q)
      · rw [List.mem_singleton] at h; rw [h]; exact hn'.1)
    rw [List.append_assoc] at this
    exact this

theorem bindArgs_plain {fd : FuncData} {vals : List Value} (h1 : fd.params.posonlyargs = []) (h2 : fd.params.vararg = none) (h3 : fd.params.kwonlyargs = []) (h4 : fd.params.kwarg = none) (h5 : fd.defaults = .none)
    (hl : fd.params.args.length = vals.length) (hn : (fd.params.args.map (·.arg)).Nodup) : bindArgs fd ⟨vals, []⟩ = pure ((fd.params.args.map (·.arg)).zip vals) := by
  have hmiss : ((fd.params.args.map (·.arg)).filter fun n => (((fd.params.args.map (·.arg)).zip vals).lookup n).isNone) = [] := by
    rw [List.filter_eq_nil_iff]
    intro n hm
    have := lookup_zip (vs := vals) hm (by simpa using hl)
    cases q : ((fd.params.args.map (·.arg)).zip vals).lookup n with
    | none => rw [q] at this; cases this
    | some _ => simp
  have hfm := filterMap_zip (vs := vals) hn (by simpa using hl) [] (fun p hp => nomatch hp)
  simp only [List.nil_append] at hfm
  unfold bindArgs
  simp only [h1, h2, h3, h4, h5, List.map_nil, List.nil_append, List.append_nil, List.forIn_nil]
  show (seqItems? .none >>= fun d => _) = _
  have hs : seqItems? .none = pure none := rfl
  simp only [hs, pure_bind]
  simp only [Option.getD_none, List.length_nil, List.length_map, hl, List.drop_nil, Nat.sub_zero, Nat.lt_irrefl, gt_iff_lt, decide_false, Bool.false_and, Bool.false_eq_true, if_false]
  have ht : (fd.params.args.map (·.arg)).take vals.length = fd.params.args.map (·.arg) := by rw [List.take_of_length_le]; simp [hl]
  simp only [ht, hmiss, List.isEmpty_nil, Bool.not_true, Bool.false_eq_true, if_false]
  simp only [List.drop_eq_nil_of_le, List.length_map, hl, Nat.le_refl, List.zip_nil_left, List.zip_nil_right, List.forIn_nil, pure_bind, List.isEmpty_nil, Bool.not_true, Bool.false_eq_true, if_false, hfm]
end Mine

-- part MiniR
namespace Mine
open PySem PyProof.Rows

theorem eraseDups_le {α : Type} [BEq α] : ∀ (n : Nat) (l : List α), l.length ≤ n → l.eraseDups.length ≤ l.length
  | 0, l, h => by rw [List.length_eq_zero_iff.mp (by omega : l.length = 0)]; simp
  | n + 1, [], h => by simp
  | n + 1, a :: l, h => by
    rw [List.eraseDups_cons]
    have h1 := List.length_filter_le (fun b => !b == a) l
    have h2 := eraseDups_le n (l.filter fun b => !b == a) (by simp at h; omega)
    simp; omega
theorem nodup_of_eraseDups {α : Type} [BEq α] [LawfulBEq α] : ∀ (l : List α), l.eraseDups.length = l.length → l.Nodup
  | [], _ => List.nodup_nil
  | a :: l, h => by
    rw [List.eraseDups_cons] at h
    have h1 := List.length_filter_le (fun b => !b == a) l
    have h2 := eraseDups_le _ (l.filter fun b => !b == a) (Nat.le_refl _)
    simp only [List.length_cons, Nat.add_right_cancel_iff] at h
    have h3 : (l.filter fun b => !b == a).length = l.length := by omega
    have h4 : l.filter (fun b => !b == a) = l := List.filter_eq_self.mpr (List.length_filter_eq_length_iff.mp h3)
    rw [h4] at h
    refine List.nodup_cons.mpr ⟨fun hm => ?_, nodup_of_eraseDups l h⟩
    have := List.length_filter_eq_length_iff.mp h3 a hm
    simp at this

section
variable {kindOf : Str → Option NameKind}
theorem bindL_miss : ∀ (binds : List (Str × Value)) (m : Str → Option Value) (n : Str), n ∉ binds.map (·.1) → bindL kindOf binds m n = m n
  | [], _, _, _ => rfl
  | (k, w) :: r, m, n, h => by
    simp only [List.map_cons, List.mem_cons, not_or] at h
    unfold bindL
    rw [bindL_miss r _ n h.2]
    split
    · simp [h.1]
    · rfl
theorem bindL_get : ∀ (binds : List (Str × Value)) (m : Str → Option Value) (n : Str) (v : Value), (binds.map (·.1)).Nodup → (n, v) ∈ binds → kindOf n = some .local → bindL kindOf binds m n = some v
  | (k, w) :: r, m, n, v, hn, h, hk => by
    simp only [List.map_cons, List.nodup_cons] at hn
    unfold bindL
    rcases List.mem_cons.mp h with e | h
    · cases e
      rw [bindL_miss r _ _ hn.1, if_pos hk]
      simp
    · exact bindL_get r _ n v hn.2 h hk
theorem bindC_miss : ∀ (binds : List (Str × Value)) (m : Str → Option Value) (n : Str), n ∉ binds.map (·.1) → bindC kindOf binds m n = m n
  | [], _, _, _ => rfl
  | (k, w) :: r, m, n, h => by
    simp only [List.map_cons, List.mem_cons, not_or] at h
    unfold bindC
    rw [bindC_miss r _ n h.2]
    split
    · rfl
    · simp [h.1]
theorem bindC_get : ∀ (binds : List (Str × Value)) (m : Str → Option Value) (n : Str) (v : Value), (binds.map (·.1)).Nodup → (n, v) ∈ binds → kindOf n ≠ some .local → bindC kindOf binds m n = some v
  | (k, w) :: r, m, n, v, hn, h, hk => by
    simp only [List.map_cons, List.nodup_cons] at hn
    unfold bindC
    rcases List.mem_cons.mp h with e | h
    · cases e
      rw [bindC_miss r _ _ hn.1, if_neg hk]
      simp
    · exact bindC_get r _ n v hn.2 h hk
end

theorem cells_some : ∀ (names : List (Str × NameKind)) (n : Nat) (acc : List (Str × Addr)) (x : Str), (x, NameKind.cell) ∈ names ∨ (acc.lookup x).isSome = true → ((cellsFrom n names acc).lookup x).isSome = true
  | [], n, acc, x, h => by
    rcases h with h | h
    · exact nomatch h
    · exact h
  | (k, kd) :: r, n, acc, x, h => by
    unfold cellsFrom
    split
    · refine cells_some r _ _ x ?_
      rcases h with h | h
      · rcases List.mem_cons.mp h with e | h
        · cases e; right; simp
        · exact .inl h
      · right
        rw [List.lookup_cons]
        split
        · rfl
        · exact h
    · rename_i hk
      refine cells_some r _ _ x ?_
      rcases h with h | h
      · rcases List.mem_cons.mp h with e | h
        · cases e; simp at hk
        · exact .inl h
      · exact .inr h

theorem lookup_mem {β : Type} [DecidableEq β] : ∀ {l : List (Str × β)} {n : Str} {k : β}, (l.map (·.1)).Nodup → (n, k) ∈ l → l.lookup n = some k
  | (a, b) :: r, n, k, hn, h => by
    simp only [List.map_cons, List.nodup_cons] at hn
    rw [List.lookup_cons]
    rcases List.mem_cons.mp h with e | h'
    · cases e; simp
    · have : (n == a) = false := by
        simp only [beq_eq_false_iff_ne, ne_eq]
        rintro rfl
        exact hn.1 (List.mem_map.mpr ⟨(_, k), h', rfl⟩)
      rw [this]
      exact lookup_mem hn.2 h'

theorem zipIdx_lookup {l : List Str} {x : Str} {i : Nat} (h : l.zipIdx.lookup x = some i) : l[i]? = some x := by
  have := mem_of_lookup h
  rw [List.mem_zipIdx_iff_getElem?] at this
  exact this

theorem tblOf_get {sc : PySem.Scope} {x : Str} {i : Nat} (h : (tblOf sc).lookup x = some i) : ((tblOf sc).map (·.1))[i]? = some x := by
  unfold tblOf at *
  have := zipIdx_lookup h
  rw [List.zipIdx_map_fst]
  exact this
theorem tblOf_kind {sc : PySem.Scope} {x : Str} {i : Nat} (hn : (sc.names.map (·.1)).Nodup) (h : (tblOf sc).lookup x = some i) : sc.names.lookup x = some .local ∨ sc.names.lookup x = some .cell := by
  have h1 := tblOf_get h
  unfold tblOf at h1
  rw [List.zipIdx_map_fst] at h1
  obtain ⟨p, hp, rfl⟩ := List.mem_map.mp (List.mem_of_getElem? h1)
  obtain ⟨hm, hk⟩ := List.mem_filter.mp hp
  obtain ⟨x, k⟩ := p
  simp only [Bool.or_eq_true, beq_iff_eq] at hk
  rcases hk with rfl | rfl
  · exact .inl (lookup_mem hn hm)
  · exact .inr (lookup_mem hn hm)

structure ChkF (fd : FD) (params : PySem.Arguments) (body : List PySem.Stmt) (sc : PySem.Scope) : Prop where
  kind : sc.kind = .function
  gen : sc.isGenerator = false
  co : sc.isCoroutine = false
  pos : params.posonlyargs = []
  vararg : params.vararg = none
  kwonly : params.kwonlyargs = []
  kwarg : params.kwarg = none
  np : params.args.length = fd.nparams
  len : (tblOf sc).length ≤ fd.nvars
  npl : fd.nparams ≤ fd.nvars
  names : ((tblOf sc).map (·.1)).take fd.nparams = params.args.map (·.arg)
  tnd : ((tblOf sc).map (·.1)).Nodup
  nd : (sc.names.map (·.1)).Nodup
  kinds : ∀ p ∈ sc.names, p.2 = .local ∨ p.2 = .cell ∨ p.2 = .globalImplicit
  body : chkSs sc (tblOf sc) fd.body body = true

theorem chkF_of {fd : FD} {params : PySem.Arguments} {body : List PySem.Stmt} {sc : PySem.Scope} (h : chkF fd params body sc = true) : ChkF fd params body sc := by
  unfold chkF at h
  simp only [Bool.and_eq_true, beq_iff_eq, Bool.not_eq_true', List.isEmpty_iff, Option.isNone_iff_eq_none, decide_eq_true_eq, List.all_eq_true, Bool.or_eq_true] at h
  obtain ⟨⟨⟨⟨⟨⟨⟨⟨⟨⟨⟨⟨⟨⟨⟨h1, h2⟩, h3⟩, h4⟩, h5⟩, h6⟩, h7⟩, h8⟩, h9⟩, h10⟩, h11⟩, h12⟩, h13⟩, h14⟩, h15⟩, h16⟩ := h
  refine ⟨h1, h2, h3, h4, h5, h6, h7, h9, h10, h11, h12, nodup_of_eraseDups _ (by rw [h13]; simp), nodup_of_eraseDups _ (by rw [h14]; simp), fun p hp => ?_, h16⟩
  rcases h15 p hp with (h | h) | h
  · exact .inl h
  · exact .inr (.inl h)
  · exact .inr (.inr h)

section
variable {cx : Cx} (ok : CxOK cx)

theorem zip_map_fst {α : Type} : ∀ (ns : List Str) (vs : List α), ns.length = vs.length → (ns.zip vs).map (·.1) = ns
  | [], [], _ => rfl
  | a :: ns, b :: vs, h => by simp [zip_map_fst ns vs (by simpa using h)]

/-- the frame at a call's start -/
theorem frame_start {fdat : FuncData} {fd : FD} {body : List Stmt} (hc : ChkF fd fdat.params body fdat.scope) (hg : fdat.globals = mainGlobals) (hb : fdat.builtins = builtinsNs) {s s₁ : Shared} {μ : Mem} {vs : List Val} {xs : List Value} {a : Addr}
    (hl : vs.length = fd.nparams) (hv : VReps cx s.heap vs xs) (R : Rel cx μ s.heap)
    (x : InCallC s (callEnvC fdat s.heap.objs.size a).locals (bindL (callEnvC fdat s.heap.objs.size a).kindOf ((fdat.params.args.map (·.arg)).zip xs) fun _ => none) (callEnvC fdat s.heap.objs.size a).cells
        (bindC (callEnvC fdat s.heap.objs.size a).kindOf ((fdat.params.args.map (·.arg)).zip xs) fun _ => none) s₁) :
    FR cx (callEnvC fdat s.heap.objs.size a) (tblOf fdat.scope) (initEnv fd vs) μ s₁.heap := by
  have S : Step cx F0 μ s.heap μ s₁.heap := Step.grow R x.toInCall.keep
  have hlen : vs.length = xs.length := hv.len
  have hpl : (fdat.params.args.map (·.arg)).length = xs.length := by rw [List.length_map, hc.np, ← hl, hlen]
  have hnd : ((fdat.params.args.map (·.arg)).zip xs |>.map (·.1)).Nodup := by
    rw [zip_map_fst _ _ hpl, ← hc.names]
    exact hc.tnd.sublist (List.take_sublist _ _)
  have param : ∀ y i v, (tblOf fdat.scope).lookup y = some i → (initEnv fd vs)[i]? = some (some v) → ∃ z, (y, z) ∈ (fdat.params.args.map (·.arg)).zip xs ∧ VRep cx s₁.heap v z := fun y i v hy hi => by
    unfold initEnv at hi
    rw [List.getElem?_append] at hi
    split at hi
    · rename_i hlt
      rw [List.length_map] at hlt
      rw [List.getElem?_map] at hi
      cases hvi : vs[i]? with
      | none => rw [hvi] at hi; simp at hi
      | some v' =>
        rw [hvi] at hi
        simp at hi
        subst hi
        obtain ⟨z, hz, hr⟩ := hv.get hvi
        refine ⟨z, ?_, S.v hr⟩
        have hn := tblOf_get hy
        have hn' : (fdat.params.args.map (·.arg))[i]? = some y := by
          rw [← hc.names, List.getElem?_take, if_pos (by omega)]
          exact hn
        exact List.mem_of_getElem? (List.getElem?_zip_eq_some.mpr ⟨hn', hz⟩)
    · rw [List.getElem?_replicate] at hi
      split at hi <;> simp at hi
  have fresh : ∀ b, s.heap.objs.size ≤ b → ¬ Own μ s₁.heap b ∧ cx.h₀.get? b = none := fun b hb => by
    have hn : s.heap.get? b = none := by
      cases q : s.heap.get? b with
      | none => rfl
      | some o => exact absurd (Heap.lt_size q) (Nat.not_lt.mpr hb)
    refine ⟨fun h => ?_, ?_⟩
    · obtain ⟨_, own⟩ := R.mono (H' := s₁.heap) (fun b ob hb _ => x.toInCall.keep b ob hb) (KeepT.of x.toInCall.keep) (KeepR.of x.toInCall.keep)
      obtain ⟨o', h', _⟩ := R.own_some ((own _).mp h)
      rw [hn] at h'; cases h'
    · cases q : cx.h₀.get? b with
      | none => rfl
      | some o => rw [R.base b o q] at hn; cases hn
  refine ⟨hc.kind, hg, hb, ⟨_, x.toInCall.ns, fun y i v hy hk hi => ?_⟩, fun y i hy => ?_, fun b hb => ?_, fun y z c h1 h2 => ?_, fun y h => ?_, fun y z i h1 h2 => ?_⟩
  · obtain ⟨z, hz, hr⟩ := param y i v hy hi
    exact ⟨z, bindL_get _ _ _ _ hnd hz hk, hr⟩
  · rcases tblOf_kind hc.nd hy with h | h
    · exact .inl h
    · refine .inr ⟨.inl h, ?_⟩
      obtain ⟨c, hcc⟩ := Option.isSome_iff_exists.mp (cells_some fdat.scope.names (s.heap.objs.size + 1) [] y (.inl (mem_of_lookup h)))
      refine ⟨c, _, hcc, x.cell y c hcc, fun v hi => ?_⟩
      obtain ⟨z, hz, hr⟩ := param y i v hy hi
      exact ⟨z, bindC_get _ _ _ _ hnd hz (by show fdat.scope.names.lookup y ≠ _; rw [h]; simp), hr⟩
  · rcases hb with rfl | ⟨y, hy⟩
    · obtain ⟨f1, f2⟩ := fresh _ (Nat.le_refl _)
      obtain ⟨o, es, ep, ho, hd, _⟩ := x.toInCall.ns
      exact ⟨f1, f2, o, ho, by unfold steady; rw [hd]⟩
    · have habove := x.above y b (mem_of_lookup hy)
      obtain ⟨f1, f2⟩ := fresh b (Nat.le_of_lt habove)
      obtain ⟨o, ho, hd⟩ := x.cell y b hy
      exact ⟨f1, f2, o, ho, by unfold steady; rw [hd]⟩
  · exact name_of_addr x.apart (mem_of_lookup h1) (mem_of_lookup h2)
  · exact absurd (x.above y _ (mem_of_lookup h)) (Nat.lt_irrefl _)
  · have e1 := tblOf_get h1
    have e2 := tblOf_get h2
    rw [e1] at e2
    exact Option.some.inj e2

def supP (P : Prog) : Prop := ∀ f fd, P.fn f = some fd → supSs P fd.body = true

theorem not_free {sc : PySem.Scope} (h : ∀ p ∈ sc.names, p.2 = .local ∨ p.2 = .cell ∨ p.2 = .globalImplicit) (x : Str) : sc.names.lookup x ≠ some .free := fun e => by
  have := h _ (mem_of_lookup e)
  simp at this

/-- what leaves a call -/
theorem Step.leave {ev : PySem.Env} {μ μ' : Mem} {s s₁ s' : Shared} (R : Rel cx μ s.heap) (hk : ∀ b o, s.heap.get? b = some o → s₁.heap.get? b = some o) (hfs : ∀ b, Fs ev b → s.heap.get? b = none) (S : Step cx (Fs ev) μ s₁.heap μ' s'.heap) : Step cx F0 μ s.heap μ' s'.heap := by
  have S0 : Step cx F0 μ s.heap μ s₁.heap := Step.grow R hk
  have S1 : Step cx (Fs ev) μ s.heap μ' s'.heap := S0.toFs.trans S
  exact ⟨S1.rel, fun a o h hn _ => S1.keep a o h hn (fun hf => by rw [hfs a hf] at h; cases h), S1.own, S1.cls, S1.tup⟩

include ok in
theorem callSound (hs : supP cx.P) : ∀ n, CallSound cx (callN cx.P n) n
  | 0 => fun A hA f vs μ Q s xs fa h => h.elim
  | n + 1 => fun A hA f vs μ Q s xs fa h R hv hfa => by
    simp only [callN] at h
    split at h
    · rename_i fd hfd
      obtain ⟨hl, hw⟩ := h
      have hok : FnOK cx fa fd := by
        cases f with
        | fn f =>
          obtain ⟨a', e1, h⟩ := ok.fns f fd hfd
          have hfa' : cx.mg f = some (.ref fa) := hfa
          rw [hfa'] at e1
          cases e1
          exact h
      · obtain ⟨o, fdat, body, ho, hd, hbody, hg, hb, hclo, hdf, hkd, hcr, hchk⟩ := hok
        refine ⟨⟨o, fdat, ho, hd⟩, ?_⟩
        have hc := chkF_of hchk
        have hlen : vs.length = xs.length := hv.len
        have hpl : fdat.params.args.length = xs.length := by rw [hc.np, ← hl, hlen]
        have hnd : (fdat.params.args.map (·.arg)).Nodup := by rw [← hc.names]; exact hc.tnd.sublist (List.take_sublist _ _)
        refine codeAny_call_cells (o := o) (fd := fdat) (body := body) (by have := hA.2.1; omega) (R.base _ _ ho) hd (ok.nolimit.keeps R.base) (hcr.keeps R.base) hbody
          (bindArgs_plain hc.pos hc.vararg hc.kwonly hc.kwarg hdf hpl hnd) hclo (fun y hy => ?_) (fun s₁ x => ?_) hc.co hc.gen hc.kind
        · have hm : y.1 ∈ fdat.params.args.map (·.arg) := (List.of_mem_zip (a := y.1) (b := y.2) hy).1
          rw [← hc.names] at hm
          have hm' := List.mem_of_mem_take hm
          obtain ⟨p, hp, e⟩ := List.mem_map.mp hm'
          have hlk : (tblOf fdat.scope).lookup y.1 = some p.2 := lookup_mem hc.tnd (by rw [← e]; exact hp)
          rcases tblOf_kind hc.nd hlk with h | h
          · exact .inl h
          · exact .inr ⟨h, cells_some _ _ _ _ (.inl (mem_of_lookup h))⟩
        · have F := frame_start hc hg hb hl hv R x
          have S0 : Step cx F0 μ s.heap μ s₁.heap := Step.grow R x.toInCall.keep
          have hA' : RoomB n (A.deeper (callEnvC fdat s.heap.objs.size fa)) := ⟨hA.1, by have := hA.2.1; show A.depth + 1 + 3 * n + 2 < _; omega, by have := hA.2.2; show A.units + 3 + 20 * n + 310 < _; omega⟩
          refine wpAny_mono (soundSs ok (callSound hs n) (not_free hc.kinds) fd.body body (hs _ _ hfd) hc.body _ _ μ s₁ _ hA' F S0.rel hw) (fun f s' h => ?_) fun _ _ e => e.elim
          obtain ⟨fl, env', μ', g1, g2, g3, g4, g5⟩ := h
          have hsame : Same s s₁ := by
            obtain ⟨h, tk, e⟩ := x.toInCall.same
            rw [e]; exact ⟨rfl, rfl⟩
          have hfs : ∀ b, Fs (callEnvC fdat s.heap.objs.size fa) b → s.heap.get? b = none := fun b hb => by
            have hge : s.heap.objs.size ≤ b := by
              rcases hb with rfl | ⟨y, hy⟩
              · exact Nat.le_refl _
              · exact Nat.le_of_lt (x.above y b (mem_of_lookup hy))
            cases q : s.heap.get? b with
            | none => rfl
            | some o => exact absurd (Heap.lt_size q) (Nat.not_lt.mpr hge)
          have S := Step.leave R x.toInCall.keep hfs g3
          cases fl <;> cases f <;> simp only [FlRep] at g1
          · exact ⟨.none, μ', .none, S, hsame.trans g4, g5⟩
          · exact ⟨.none, μ', .none, S, hsame.trans g4, g5⟩
          · exact ⟨.none, μ', .none, S, hsame.trans g4, g5⟩
          · exact ⟨_, μ', g1, S, hsame.trans g4, g5⟩
    · exact h.elim
end
end Mine

-- part MiniS
namespace Mine
open PySem PyProof.Rows

def fnOf (tb : List (Str × FD))
    : Callee → Option FD
  | .fn f => tb.lookup f
def progOf (tb : List (Str × FD))
    : Prog := ⟨fnOf tb
    , fun _ => [],
    fun _ => []
    ⟩
def checkAll (p : Program) (tb : List (Str × FD)) : Bool := tb.all fun x => (recsOf p).any fun d => d.name == x.1 && chkF x.2 d.params d.body d.scope
def bootNames : List Str := ["len", "max", "min", "int", "str", "list", "tuple", "dict", "sorted", "all", "set", "range", "reversed", "isinstance", "bool", "ValueError"].map Str.ofString
def bootFree (p : Program) (loose : List Str) : Bool := bootNames.all fun x => !(startupNames.contains x) && !(loose.contains x) && !(((recsOf p).map (·.name)).contains x) && !(((litsOf p).map (·.1)).contains x) && !(((clssOf p loose).map (·.name)).contains x)
def supAll (tb : List (Str × FD))
    : Bool := (tb.all fun x => supSs (progOf tb
    ) x.2.body)

theorem ite_or {α : Type} {p : Prop} [Decidable p] {a b c : α} (h : (if p then a else b) = c) : (p ∧ a = c) ∨ b = c := by
  by_cases hp : p
  · rw [if_pos hp] at h; exact .inl ⟨hp, h⟩
  · rw [if_neg hp] at h; exact .inr h
theorem bootOf_mem {n : Str} {v : Value} (h : bootOf n = some v) : n ∈ bootNames ∧ bootBuiltins n = some v ∧ n ≠ Str.ofString "__name__" := by
  have key : ∀ (m : String) (u : Value), (Str.ofString m ∈ bootNames ∧ bootBuiltins (Str.ofString m) = some u ∧ Str.ofString m ≠ Str.ofString "__name__") → n = Str.ofString m → some u = some v → n ∈ bootNames ∧ bootBuiltins n = some v ∧ n ≠ Str.ofString "__name__" := by
    rintro m u h1 rfl h2
    cases h2
    exact h1
  unfold bootOf at h
  iterate 16 (rcases ite_or h with ⟨e, h'⟩ | h'; · exact key _ _ ⟨by decide +kernel, by decide +kernel, by decide +kernel⟩ e h'
              clear h; have h := h'; clear h')
  cases h

theorem supP_of {tb : List (Str × FD)}
    (h : supAll tb
      = true) : supP (progOf tb
    ) := by
  intro f fd hf
  unfold supAll at h
  rw [List.all_eq_true] at h
  cases f with
  | fn f =>
    exact h (f, fd) (mem_of_lookup hf)

theorem cxOK_of {p prog : Program} {loose : List Str} {mean : ExcName → Option Value} {mg mb : Str → Option Value} {w : World} {h : Heap} (T : Top p loose mean mg mb h) {tb : List (Str × FD)} 
    (hc : checkAll p tb = true) (hb : bootFree p loose = true) :
    CxOK { prog := prog, w := w, h₀ := h, P := progOf tb, cls := fun _ => none, mg := mg, mb := mb } where

  nolimit := T.nolimit
  gns := T.g
  bns := T.b
  boot := fun n v hn => by
    obtain ⟨h1, h2, h3⟩ := bootOf_mem hn
    unfold bootFree at hb
    rw [List.all_eq_true] at hb
    have := hb n h1
    simp only [Bool.and_eq_true, Bool.not_eq_true', List.contains_eq_mem, decide_eq_false_iff_not] at this
    obtain ⟨⟨⟨⟨a1, a2⟩, a3⟩, a4⟩, a5⟩ := this
    exact ⟨T.free n a1 a2 a3 a4 a5, (T.builtins n h3).trans h2⟩
  fns := fun f fd hf => by
    unfold checkAll at hc
    rw [List.all_eq_true] at hc
    have := hc (f, fd) (mem_of_lookup hf)
    simp only [List.any_eq_true, Bool.and_eq_true, beq_iff_eq] at this
    obtain ⟨d, hd, rfl, hk⟩ := this
    obtain ⟨a, o, pm, code, doc, h1, h2, h3, h4⟩ := T.fn d hd
    exact ⟨a, h1, o, _, d.body, h2, h3, rfl, rfl, rfl, rfl, rfl, rfl, h4, hk⟩

def mu0 (l : Addr) (ns : List Int) : Mem := fun b => if b = l then some (.arr ns) else none

/-- the law, called from the top -/
theorem law_top {p prog : Program} {loose : List Str} {mean : ExcName → Option Value} {mg mb : Str → Option Value} {w : World} {s₁ : Shared} (T : Top p loose mean mg mb s₁.heap) {tb : List (Str × FD)} {f : Str} {n : Nat} (hn : n ≤ 20)
    
    (hc : checkAll p tb = true) (hb : bootFree p loose = true) (hs : supAll tb
      = true) {fa l : Addr} {vals : List Value} {ns : List Int} (hmg : mg f = some (.ref fa)) (hL : s₁.heap.IsList l vals.toArray) (hI : IntsAre vals ns) (hlen : ns.length ≤ 63)
    (hlaw : callN (progOf tb
    ) n (.fn f) [.ref l] (mu0 l ns) (fun v _ => v = .bool true) (fun _ _ => False)) {E : Value → Shared → Prop} :
    wpAny (model prog w) callerA (call (.ref fa) [.ref l]) (fun v s' => v = .bool true ∧ (∀ b o, s₁.heap.get? b = some o → s'.heap.get? b = some o) ∧ s'.os = s₁.os ∧ s'.gens = s₁.gens) E s₁ := by
  let cx : Cx := { prog := prog, w := w, h₀ := s₁.heap, P := progOf tb, cls := fun _ => none, mg := mg, mb := mb }
  have ok : CxOK cx := cxOK_of T hc hb
  have hA : Room n callerA := ⟨rfl, by show 1 + claimMargin + 3 * n < recursionLimit; have : claimMargin ≤ 300 := by decide
                                       have : recursionLimit = 1000 := rfl
                                       omega, by show 4 + 20 * n + 300 < cLine; have : cLine = 9900 := rfl
                                                 omega⟩
  have own0 : ∀ a, ¬ Own (mu0 l ns) s₁.heap a := by
    rintro a (⟨o, h, hw⟩ | ⟨x, c, fs, o, h, _⟩)
    · unfold mu0 at h
      split at h
      · cases h; exact hw
      · cases h
    · unfold mu0 at h
      split at h <;> cases h
  have R : Rel cx (mu0 l ns) s₁.heap := by
    refine ⟨fun a o h => h, fun a o h => ?_, fun a h => (own0 a h).elim, fun x c fs o d h => ?_, fun x y c c' fs fs' o o' d h => ?_⟩
    · unfold mu0 at h
      split at h
      · cases h
        rename_i e
        subst e
        exact ⟨vals, hL, hI, by have := sizeLine_eq; omega⟩
      · cases h
    · unfold mu0 at h
      split at h <;> cases h
    · unfold mu0 at h
      split at h <;> cases h
  have := (callSound ok (supP_of hs) n callerA hA (.fn f) [.ref l] (mu0 l ns) _ s₁ [.ref l] fa hlaw R (.cons (.ref _) .nil) hmg).2
  refine wpAny_call (codeAny_mono this fun r s' h => ?_)
  rcases r with e | (_ | _ | _ | v) <;> first | exact h.elim | skip
  obtain ⟨v', μ', h1, h2, h3, rfl⟩ := h
  cases h1
  exact ⟨rfl, h2.rel.base, h3.2, h3.1⟩
end Mine

-- part Com
namespace Mine
open PySem (Str Addr PyData)
-- 0 _law_found
def f__law_whole : FD := ⟨1, 1, [
  .ret (.bool true [(.isinst (.var 0) .int), (.not (.isinst (.var 0) .bool))])]⟩
-- 0 _law_script, 1 _law_k
def f__law_cell_at : FD := ⟨2, 2, [
  .ite (.cmp .lt (.var 1) (.bi .len [(.var 0)])) [
    .ret (.idx (.var 0) (.var 1))] [],
  .ret (.lit (.int (0)))]⟩
-- 0 _law_cell, 1 _law_k
def f__law_mixed : FD := ⟨2, 2, [
  .ret (.bin .mod (.bin .add (.bin .mul (.var 0) (.lit (.int (48271)))) (.bin .mul (.bin .mul (.bin .add (.var 1) (.lit (.int (1)))) (.bin .add (.var 1) (.lit (.int (7))))) (.lit (.int (7919))))) (.lit (.int (2147483647))))]⟩
-- 0 _law_number, 1 _law_some, 2 _law_alike, 3 _law_at, 4 _law_word, 5 _law_k
def f__law_text : FD := ⟨1, 6, [
  .asg 1 (.lit (.str (Str.ofString " !\"#$&'()*+,-./0123456789:;<=>?@ABCDEFGHIJKLMNOPQRSTUVWXYZ[\\]^_`"))),
  .asg 1 (.bin .add (.var 1) (.lit (.str (Str.ofString "abcdefghijklmnopqrstuvwxyz{|}~")))),
  .ite (.cmp .eq (.bin .mod (.bin .fdiv (.var 0) (.lit (.int (13)))) (.lit (.int (9)))) (.lit (.int (1)))) [
    .asg 2 (.bin .add (.slice (.var 1) (.lit (.int (3))) (.lit (.int (91)))) (.slice (.var 1) (.lit (.int (40))) (.lit (.int (50))))),
    .asg 3 (.bin .mod (.bin .fdiv (.var 0) (.lit (.int (117)))) (.lit (.int (98)))),
    .ret (.bin .add (.bin .add (.slice (.var 2) (.lit .none) (.var 3)) (.idx (.var 1) (.bin .mod (.bin .fdiv (.var 0) (.lit (.int (11466)))) (.lit (.int (94)))))) (.slice (.var 2) (.bin .add (.var 3) (.lit (.int (1)))) (.lit .none)))] [],
  .asg 4 (.lit (.str (Str.ofString ""))),
  .for [5] .range [(.bin .mod (.var 0) (.lit (.int (13))))] [
    .asg 0 (.bin .mod (.bin .add (.bin .mul (.var 0) (.lit (.int (48271)))) (.lit (.int (11)))) (.lit (.int (2147483647)))),
    .asg 4 (.bin .add (.var 4) (.idx (.var 1) (.bin .mod (.bin .fdiv (.var 0) (.lit (.int (1000)))) (.lit (.int (94))))))],
  .ret (.var 4)]⟩
-- 0 _law_name, 1 _law_number, 2 _law_sign, 3 _law_one, 4 _law_other, 5 _law_low, 6 _law_high, 7 _law_middle
def f__law_changed : FD := ⟨2, 8, [
  .asg 2 (.idx (.lit (.str (Str.ofString "0123456789abcdefghij"))) (.bin .mod (.bin .fdiv (.var 1) (.lit (.int (9409)))) (.lit (.int (20))))),
  .ite (.cmp .lt (.bi .len [(.var 0)]) (.lit (.int (2)))) [
    .ret (.bin .add (.var 0) (.var 2))] [],
  .asg 3 (.bin .mod (.var 1) (.bi .len [(.var 0)])),
  .asg 4 (.bin .mod (.bin .fdiv (.var 1) (.lit (.int (97)))) (.bi .len [(.var 0)])),
  .asg 5 (.bi .min [(.var 3), (.var 4)]),
  .asg 6 (.bi .max [(.var 3), (.var 4)]),
  .ite (.bool false [(.cmp .eq (.var 5) (.var 6)), (.cmp .eq (.bin .mod (.bin .fdiv (.var 1) (.lit (.int (9409)))) (.lit (.int (2)))) (.lit (.int (0))))]) [
    .ret (.bin .add (.bin .add (.slice (.var 0) (.lit .none) (.var 5)) (.var 2)) (.slice (.var 0) (.bin .add (.var 5) (.lit (.int (1)))) (.lit .none)))] [],
  .asg 7 (.bin .add (.bin .add (.idx (.var 0) (.var 6)) (.slice (.var 0) (.bin .add (.var 5) (.lit (.int (1)))) (.var 6))) (.idx (.var 0) (.var 5))),
  .ret (.bin .add (.bin .add (.slice (.var 0) (.lit .none) (.var 5)) (.var 7)) (.slice (.var 0) (.bin .add (.var 6) (.lit (.int (1)))) (.lit .none)))]⟩
-- 0 _law_cell, 1 _law_many, 2 _law_names_here, 3 _law_k, 4 _law_number, 5 _law_name
def f__law_names : FD := ⟨2, 6, [
  .asg 2 (.list []),
  .for [3] .range [(.var 1)] [
    .asg 4 (.call (Str.ofString "_law_mixed") [(.var 0), (.var 3)]),
    .ite (.cmp .eq (.bin .mod (.var 0) (.lit (.int (2)))) (.lit (.int (1)))) [
      .asg 4 (.bin .add (.lit (.int (13))) (.bin .mul (.lit (.int (117))) (.var 4)))] [],
    .asg 5 (.call (Str.ofString "_law_text") [(.var 4)]),
    .ite (.bool true [(.cmp .gt (.var 3) (.lit (.int (0)))), (.cmp .eq (.bin .mod (.bin .fdiv (.var 4) (.lit (.int (5)))) (.lit (.int (2)))) (.lit (.int (1))))]) [
      .asg 5 (.call (Str.ofString "_law_changed") [(.idx (.var 2) (.bin .mod (.bin .fdiv (.var 4) (.lit (.int (10)))) (.var 3))), (.bin .fdiv (.var 4) (.lit (.int (3))))])] [],
    .while (.cmp .isin (.var 5) (.var 2)) [
      .asg 5 (.bin .add (.var 5) (.lit (.str (Str.ofString "~"))))],
    .expr (.meth (.var 2) (Str.ofString "append") .append [(.var 5)])],
  .ret (.var 2)]⟩

structure Com (P : Prog) : Prop where
  cell : P.fn (.fn (Str.ofString "_law_cell_at")) = some f__law_cell_at
  mixed : P.fn (.fn (Str.ofString "_law_mixed")) = some f__law_mixed
  text : P.fn (.fn (Str.ofString "_law_text")) = some f__law_text
  changed : P.fn (.fn (Str.ofString "_law_changed")) = some f__law_changed
  names : P.fn (.fn (Str.ofString "_law_names")) = some f__law_names
end Mine

-- part SpL
namespace Mine
open PySem (Str Addr PyData)
theorem lg0 (a : Option Val) (l : Env) : (a :: l)[0]? = some a := rfl
theorem lgS (a : Option Val) (l : Env) (n : Nat) : (a :: l)[n + 1]? = l[n]? := rfl
theorem ls0 (a b : Option Val) (l : Env) : (a :: l).set 0 b = b :: l := rfl
theorem lsS (a b : Option Val) (l : Env) (n : Nat) : (a :: l).set (n + 1) b = a :: l.set n b := rfl
theorem sdl {b : Int} (h : (decide (-1000000000 ≤ b) && decide (b ≤ 1000000000)) = true) : smallD b := by
  rw [Bool.and_eq_true, decide_eq_true_eq, decide_eq_true_eq] at h; exact h
section
variable {μ : Mem} {Q : VQ} {K : Bool → Prop} {X : XQ}
theorem bin_addI (a b : Int) : wpBin .add (.int a) (.int b) μ Q = Q (.int (a + b)) μ := rfl
theorem bin_subI (a b : Int) : wpBin .sub (.int a) (.int b) μ Q = Q (.int (a - b)) μ := rfl
theorem bin_mulI (a b : Int) : wpBin .mul (.int a) (.int b) μ Q = ((small a ∨ small b) ∧ Q (.int (a * b)) μ) := rfl
theorem bin_fdivI (a b : Int) : wpBin .fdiv (.int a) (.int b) μ Q = ((b ≠ 0 ∧ smallD b) ∧ Q (.int (a.fdiv b)) μ) := rfl
theorem bin_modI (a b : Int) : wpBin .mod (.int a) (.int b) μ Q = (b ≠ 0 ∧ Q (.int (a.fmod b)) μ) := rfl
theorem bin_addS (a b : Str) : wpBin .add (.str a) (.str b) μ Q = (a.length + b.length ≤ szl ∧ Q (.str (a ++ b)) μ) := rfl
theorem eq_II (a b : Int) : wpEq (.int a) (.int b) μ K = K (a == b) := rfl
theorem eq_SS (a b : Str) : wpEq (.str a) (.str b) μ K = K (a == b) := rfl
theorem eq_NN : wpEq .none .none μ K = K true := rfl
theorem eq_NI (b : Int) : wpEq .none (.int b) μ K = K false := rfl
theorem eq_NS (b : Str) : wpEq .none (.str b) μ K = K false := rfl
theorem eq_IN (b : Int) : wpEq (.int b) .none μ K = K false := rfl
theorem eq_SN (b : Str) : wpEq (.str b) .none μ K = K false := rfl
theorem eq_BB (a b : Bool) : wpEq (.bool a) (.bool b) μ K = K (a == b) := rfl
theorem cmp_eq (a b : Val) : wpCmp .eq a b μ K = wpEq a b μ K := rfl
theorem cmp_ne (a b : Val) : wpCmp .ne a b μ K = wpEq a b μ fun r => K (!r) := rfl
theorem cmp_isN (a : Val) : wpCmp .is a .none μ K = K (isNone a) := rfl
theorem cmp_isnotN (a : Val) : wpCmp .isnot a .none μ K = K (!isNone a) := rfl
theorem cmp_in (a b : Val) : wpCmp .isin a b μ K = wpIn a b μ K := rfl
theorem cmp_notin (a b : Val) : wpCmp .notin a b μ K = wpIn a b μ fun r => K (!r) := rfl
theorem cmp_lt (a b : Int) : wpCmp .lt (.int a) (.int b) μ K = K (decide (a < b)) := rfl
theorem cmp_le (a b : Int) : wpCmp .le (.int a) (.int b) μ K = K (decide (a ≤ b)) := rfl
theorem cmp_gt (a b : Int) : wpCmp .gt (.int a) (.int b) μ K = K (decide (a > b)) := rfl
theorem cmp_ge (a b : Int) : wpCmp .ge (.int a) (.int b) μ K = K (decide (a ≥ b)) := rfl
theorem idx_S (s : Str) (k : Int) : wpIdx (.str s) (.int k) μ Q = ((0 ≤ k ∧ k < s.length ∧ k < 1000000000) ∧ ∀ r : Str, r.length = 1 → Q (.str r) μ) := rfl
theorem bi_lenS (s : Str) : wpBI .len [.str s] μ Q = Q (.int s.length) μ := rfl
theorem bi_maxI (a b : Int) : wpBI .max [.int a, .int b] μ Q = Q (.int (if a < b then b else a)) μ := rfl
theorem bi_minI (a b : Int) : wpBI .min [.int a, .int b] μ Q = Q (.int (if b < a then b else a)) μ := rfl
theorem isN_N : isNone .none = true := rfl
theorem isN_I (i : Int) : isNone (.int i) = false := rfl
theorem isN_S (i : Str) : isNone (.str i) = false := rfl
theorem isN_R (i : Addr) : isNone (.ref i) = false := rfl
theorem truth_B (b : Bool) : truth (.bool b) = some b := rfl
theorem it_range1 (n : Int) {K : Src → List Val → Prop} : itSrc .range [.int n] μ K = ((-1000000 ≤ n ∧ n ≤ 1000000) ∧ K none (rangeL 0 n)) := rfl
theorem it_range2 (a b : Int) {K : Src → List Val → Prop} : itSrc .range [.int a, .int b] μ K = ((-1000000 ≤ a ∧ a ≤ 1000000 ∧ -1000000 ≤ b ∧ b ≤ 1000000) ∧ K none (rangeL a b)) := rfl
theorem it_list {a : Addr} {vs : List Val} {K : Src → List Val → Prop} (h : μ a = some (.list vs)) : itSrc .val [.ref a] μ K = K (some (a, .list vs)) vs := by dsimp only [itSrc]; rw [h]
theorem idx_L {a : Addr} {vs : List Val} {k : Int} (h : μ a = some (.list vs)) : wpIdx (.ref a) (.int k) μ Q = ∃ v, pyGet vs k = some v ∧ Q v μ := by dsimp only [wpIdx]; rw [h]
theorem idx_A {a : Addr} {vs : List Int} {k : Int} (h : μ a = some (.arr vs)) : wpIdx (.ref a) (.int k) μ Q = ∃ v, pyGet vs k = some v ∧ 0 ≤ k ∧ Q (.int v) μ := by dsimp only [wpIdx]; rw [h]
theorem idx_D {a : Addr} {es : List (Str × Val)} {k : Str} (h : μ a = some (.sdict es)) : wpIdx (.ref a) (.str k) μ Q = ∃ v, look es k = some v ∧ Q v μ := by dsimp only [wpIdx]; rw [h]
theorem len_L {a : Addr} {vs : List Val} (h : μ a = some (.list vs)) : wpBI .len [.ref a] μ Q = Q (.int vs.length) μ := by dsimp only [wpBI]; rw [h]
theorem len_A {a : Addr} {vs : List Int} (h : μ a = some (.arr vs)) : wpBI .len [.ref a] μ Q = Q (.int vs.length) μ := by dsimp only [wpBI]; rw [h]
theorem list_L {a : Addr} {vs : List Val} (h : μ a = some (.list vs)) : wpBI .list [.ref a] μ Q = ∀ c, μ c = none → Q (.ref c) (upd μ c (.list vs)) := by dsimp only [wpBI]; rw [h]
theorem dict_D {a : Addr} {vs : List (Str × Val)} (h : μ a = some (.sdict vs)) : wpBI .dict [.ref a] μ Q = ∀ c, μ c = none → Q (.ref c) (upd μ c (.sdict vs)) := by dsimp only [wpBI]; rw [h]
theorem set_L {a : Addr} {vs : List Val} {k : Int} {v : Val} {R : Mem → Prop} (h : μ a = some (.list vs)) : wpSetIdx (.ref a) (.int k) v μ R = ∃ vs', setAt vs k v = some vs' ∧ R (upd μ a (.list vs')) := by dsimp only [wpSetIdx]; rw [h]
theorem set_D {a : Addr} {es : List (Str × Val)} {k : Str} {v : Val} {R : Mem → Prop} (h : μ a = some (.sdict es)) : wpSetIdx (.ref a) (.str k) v μ R = (es.length < szl ∧ R (upd μ a (.sdict (dset es k v)))) := by dsimp only [wpSetIdx]; rw [h]
theorem app_L (a : Addr) (vs : List Val) (v : Val) : wpListMeth .append a vs [v] μ Q = (vs.length < szl ∧ Q .none (upd μ a (.list (vs ++ [v])))) := rfl
theorem upd_upd (μ : Mem) (a : Addr) (x y : MObj) : upd (upd μ a x) a y = upd μ a y := by funext b; simp only [upd]; split <;> rfl
theorem updS (μ : Mem) (a : Addr) (o : MObj) : upd μ a o a = some o := by simp [upd]
theorem updO {μ : Mem} {a b : Addr} {o x : MObj} (hb : μ b = some x) (ha : μ a = none) : upd μ a o b = some x := by
  unfold upd; rw [if_neg]; exact hb
  rintro rfl; rw [ha] at hb; cases hb
theorem updN {μ : Mem} {a b : Addr} {o x : MObj} (hb : μ b = some x) (hne : b ≠ a) : upd μ a o b = some x := by
  unfold upd; rw [if_neg hne]; exact hb

/-- membership -/
theorem rdAll_strs (xs : List Str) : RdAll μ (xs.map .str) (xs.map .str) := by
  induction xs with
  | nil => exact .nil
  | cons x xs ih => exact .cons (.str x) ih
theorem rdAll_ints (xs : List Int) : RdAll μ (xs.map .int) (xs.map .int) := by
  induction xs with
  | nil => exact .nil
  | cons x xs ih => exact .cons (.int x) ih
theorem depth_strs (xs : List Str) : PyData.depthAll (xs.map .str) ≤ 1 := by
  induction xs with
  | nil => simp [PyData.depthAll]
  | cons x xs ih => simp [PyData.depthAll, PyData.depth]; simpa using ih
theorem depth_ints (xs : List Int) : PyData.depthAll (xs.map .int) ≤ 1 := by
  induction xs with
  | nil => simp [PyData.depthAll]
  | cons x xs ih => simp [PyData.depthAll, PyData.depth]; simpa using ih
theorem any_strs (xs : List Str) (x : Str) : ((xs.map PyData.str).any fun y => PyData.eqv y (.str x)) = decide (x ∈ xs) := by
  induction xs with
  | nil => simp
  | cons y xs ih =>
    rw [List.map_cons, List.any_cons, ih]
    have : PyData.eqv (.str y) (.str x) = (y == x) := rfl
    rw [this, Bool.eq_iff_iff, Bool.or_eq_true, beq_iff_eq, decide_eq_true_iff, decide_eq_true_iff, List.mem_cons]
    constructor
    · rintro (h | h)
      · exact .inl h.symm
      · exact .inr h
    · rintro (h | h)
      · exact .inl h.symm
      · exact .inr h
theorem any_ints (xs : List Int) (x : Int) : ((xs.map PyData.int).any fun y => PyData.eqv y (.int x)) = decide (x ∈ xs) := by
  induction xs with
  | nil => simp
  | cons y xs ih =>
    rw [List.map_cons, List.any_cons, ih]
    have : PyData.eqv (.int y) (.int x) = (y == x) := rfl
    rw [this, Bool.eq_iff_iff, Bool.or_eq_true, beq_iff_eq, decide_eq_true_iff, decide_eq_true_iff, List.mem_cons]
    constructor
    · rintro (h | h)
      · exact .inl h.symm
      · exact .inr h
    · rintro (h | h)
      · exact .inl h.symm
      · exact .inr h
theorem in_strs {a : Addr} {xs : List Str} {x : Str} (h : μ a = some (.list (xs.map .str))) (hq : K (decide (x ∈ xs))) : wpIn (.str x) (.ref a) μ K := by
  simp only [wpIn, h]
  exact ⟨_, _, .str x, rdAll_strs xs, by simp [PyData.depth], Nat.le_trans (depth_strs xs) (by decide), by rw [any_strs]; exact hq⟩
theorem in_ints {a : Addr} {xs : List Int} {x : Int} (h : μ a = some (.list (xs.map .int))) (hq : K (decide (x ∈ xs))) : wpIn (.int x) (.ref a) μ K := by
  simp only [wpIn, h]
  exact ⟨_, _, .int x, rdAll_ints xs, by simp [PyData.depth], Nat.le_trans (depth_ints xs) (by decide), by rw [any_ints]; exact hq⟩
theorem in_dict {a : Addr} {es : List (Str × Val)} {x : Str} (h : μ a = some (.sdict es)) (hq : K (look es x).isSome) : wpIn (.str x) (.ref a) μ K := by
  simp only [wpIn, h]; exact hq
end
end Mine

-- part Sp1
namespace Mine
open PySem (Str Addr PyData)

def cellAt (ns : List Int) (k : Nat) : Int := ns.getD k 0
def mixedF (c k : Int) : Int := (c * 48271 + (k + 1) * (k + 7) * 7919).fmod 2147483647

theorem mod_pos {b : Int} (h : 0 < b) (a : Int) : 0 ≤ a.fmod b ∧ a.fmod b < b := by
  rw [Int.fmod_eq_emod_of_nonneg _ (Int.le_of_lt h)]
  exact ⟨Int.emod_nonneg _ (by omega), Int.emod_lt_of_pos _ h⟩
theorem len_append (x y : Str) : (x ++ y).length = x.length + y.length := by
  show (x.cps ++ y.cps).size = _
  rw [Array.size_append]; rfl

/-- a for, by an invariant -/
theorem forLoop_inv {body : Val → Env → Mem → SQ → Prop} {s : Src} {items : List Val} {env : Env} {μ : Mem} {Q : SQ} (I : Nat → Env → Mem → Prop) (h0 : I 0 env μ) (l0 : live s μ)
    (step : ∀ i v env μ (K : SQ), items[i]? = some v → I i env μ → live s μ → (∀ env' μ', I (i + 1) env' μ' → live s μ' → K .next env' μ') → (∀ env' μ', I (i + 1) env' μ' → live s μ' → K .cont env' μ') → (∀ r env' μ', Q (.ret r) env' μ' → K (.ret r) env' μ') → body v env μ K)
    (done : ∀ env μ, I items.length env μ → live s μ → Q .next env μ) : forLoop body s items env μ Q := by
  have key : ∀ (r : List Val) (i : Nat) (env : Env) (μ : Mem), items.drop i = r → i + r.length = items.length → I i env μ → live s μ → forLoop body s r env μ Q := by
    intro r
    induction r with
    | nil =>
      intro i env μ hd hl hI lv
      simp only [List.length_nil, Nat.add_zero] at hl
      subst hl
      exact done env μ hI lv
    | cons v r ih =>
      intro i env μ hd hl hI lv
      simp only [forLoop]
      have hi : items[i]? = some v := by
        have := List.getElem?_drop (xs := items) (i := i) (j := 0)
        rw [hd] at this
        simpa using this.symm
      have hd' : items.drop (i + 1) = r := by
        rw [← List.drop_drop, hd]; rfl
      have hl' : i + 1 + r.length = items.length := by simp at hl; omega
      refine step i v env μ _ hi hI lv (fun env' μ' h l => ⟨l, ih (i + 1) env' μ' hd' hl' h l⟩) (fun env' μ' h l => ⟨l, ih (i + 1) env' μ' hd' hl' h l⟩) (fun r env' μ' h => h)
  exact key items 0 env μ rfl (by simp) h0 l0

theorem rangeL_get {a b : Int} {i : Nat} {v : Val} (h : (rangeL a b)[i]? = some v) : v = .int (a + (i : Int)) ∧ (i : Int) < b - a := by
  have hlt := (List.getElem?_eq_some_iff.mp h).1
  simp only [rangeL, List.length_map, List.length_range] at hlt
  unfold rangeL at h
  rw [List.getElem?_map, List.getElem?_range hlt] at h
  simp at h
  exact ⟨h.symm, by omega⟩
theorem rangeL_len (a b : Int) : (rangeL a b).length = (b - a).toNat := by simp [rangeL]

section
variable {P : Prog} (hP : Com P)
include hP

omit hP in
theorem call_fn {n : Nat} {f : Str} {fd : FD} {vs : List Val} {μ : Mem} {Q : VQ} {X : XQ} (hf : P.fn (.fn f) = some fd) (hl : vs.length = fd.nparams)
    (h : wpSs P (callN P n) fd.body (initEnv fd vs) μ (fun fl _ μ' => Q (retVal fl) μ') (fun c _ μ' => X c μ')) : callN P (n + 1) (.fn f) vs μ Q X := by
  rw [callN, hf]; exact ⟨hl, h⟩

theorem spec_cell {n : Nat} {l : Addr} {ns : List Int} {k : Int} {μ : Mem} {Q : VQ} {X : XQ} (hl : μ l = some (.arr ns)) (hk : 0 ≤ k) (h : Q (.int (cellAt ns k.toNat)) μ) : callN P (n + 1) (.fn (Str.ofString "_law_cell_at")) [.ref l, .int k] μ Q X := by
  refine call_fn hP.cell rfl ?_
  change wpSs P (callN P n) f__law_cell_at.body [some (.ref l), some (.int k)] μ _ _
  dsimp only [f__law_cell_at, wpSs, wpS, wpE, wpEs, wpT, wpTs, wpB, retVal, List.length_cons, List.length_nil, lg0, lgS, ls0, lsS, Nat.reduceAdd, bin_addI, bin_subI, bin_mulI, bin_fdivI, bin_modI, bin_addS, eq_II, eq_SS, eq_NN, eq_NI, eq_NS, eq_IN, eq_SN, eq_BB, cmp_eq, cmp_ne, cmp_isN, cmp_isnotN, cmp_in, cmp_notin, cmp_lt, cmp_le, cmp_gt, cmp_ge, idx_S, bi_lenS, bi_maxI, bi_minI, isN_N, isN_I, isN_S, isN_R, truth_B, it_range1, it_range2, LM.isL, app_L, Bool.not_false, Bool.not_true]
  rw [len_A hl]
  dsimp only [wpSs, wpS, wpE, wpEs, wpT, wpTs, wpB, retVal, List.length_cons, List.length_nil, lg0, lgS, ls0, lsS, Nat.reduceAdd, bin_addI, bin_subI, bin_mulI, bin_fdivI, bin_modI, bin_addS, eq_II, eq_SS, eq_NN, eq_NI, eq_NS, eq_IN, eq_SN, eq_BB, cmp_eq, cmp_ne, cmp_isN, cmp_isnotN, cmp_in, cmp_notin, cmp_lt, cmp_le, cmp_gt, cmp_ge, idx_S, bi_lenS, bi_maxI, bi_minI, isN_N, isN_I, isN_S, isN_R, truth_B, it_range1, it_range2, LM.isL, app_L, Bool.not_false, Bool.not_true]
  split
  · rename_i e
    have hlt : k.toNat < ns.length := by have := of_decide_eq_true e; omega
    rw [idx_A hl]
    refine ⟨ns[k.toNat], by unfold pyGet; rw [if_pos hk]; exact List.getElem?_eq_getElem hlt, hk, ?_⟩
    have : cellAt ns k.toNat = ns[k.toNat] := by unfold cellAt; rw [List.getD_eq_getElem?_getD, List.getElem?_eq_getElem hlt]; rfl
    rw [← this]; exact h
  · rename_i e
    have hge : ns.length ≤ k.toNat := by have := of_decide_eq_false e; omega
    have : cellAt ns k.toNat = 0 := by unfold cellAt; rw [List.getD_eq_getElem?_getD, List.getElem?_eq_none hge]; rfl
    rw [← this]; exact h

theorem spec_mixed {n : Nat} {c k : Int} {μ : Mem} {Q : VQ} {X : XQ} (hk : -1000000000 ≤ k ∧ k ≤ 1000000000) (h : Q (.int (mixedF c k)) μ) : callN P (n + 1) (.fn (Str.ofString "_law_mixed")) [.int c, .int k] μ Q X := by
  refine call_fn hP.mixed rfl ?_
  change wpSs P (callN P n) f__law_mixed.body [some (.int c), some (.int k)] μ _ _
  dsimp only [f__law_mixed, wpSs, wpS, wpE, wpEs, wpT, wpTs, wpB, retVal, List.length_cons, List.length_nil, lg0, lgS, ls0, lsS, Nat.reduceAdd, bin_addI, bin_subI, bin_mulI, bin_fdivI, bin_modI, bin_addS, eq_II, eq_SS, eq_NN, eq_NI, eq_NS, eq_IN, eq_SN, eq_BB, cmp_eq, cmp_ne, cmp_isN, cmp_isnotN, cmp_in, cmp_notin, cmp_lt, cmp_le, cmp_gt, cmp_ge, idx_S, bi_lenS, bi_maxI, bi_minI, isN_N, isN_I, isN_S, isN_R, truth_B, it_range1, it_range2, LM.isL, app_L, Bool.not_false, Bool.not_true]
  refine ⟨.inr ?_, .inl ?_, .inr ?_, by decide, h⟩
  all_goals (unfold small; omega)

theorem spec_text {n : Nat} {num : Int} {μ : Mem} {Q : VQ} {X : XQ} (h : ∀ r : Str, r.length ≤ 500 → Q (.str r) μ) : callN P (n + 1) (.fn (Str.ofString "_law_text")) [.int num] μ Q X := by
  refine call_fn hP.text rfl ?_
  have l1 : (Str.ofString " !\"#$&'()*+,-./0123456789:;<=>?@ABCDEFGHIJKLMNOPQRSTUVWXYZ[\\]^_`").length = 64 := by decide +kernel
  have l2 : (Str.ofString "abcdefghijklmnopqrstuvwxyz{|}~").length = 30 := by decide +kernel
  have l0 : (Str.ofString "").length = 0 := by decide +kernel
  change wpSs P (callN P n) f__law_text.body [some (.int num), none, none, none, none, none] μ _ _
  dsimp only [f__law_text, wpSs, wpS, wpE, wpEs, wpT, wpTs, wpB, retVal, List.length_cons, List.length_nil, lg0, lgS, ls0, lsS, Nat.reduceAdd, bin_addI, bin_subI, bin_mulI, bin_fdivI, bin_modI, bin_addS, eq_II, eq_SS, eq_NN, eq_NI, eq_NS, eq_IN, eq_SN, eq_BB, cmp_eq, cmp_ne, cmp_isN, cmp_isnotN, cmp_in, cmp_notin, cmp_lt, cmp_le, cmp_gt, cmp_ge, idx_S, bi_lenS, bi_maxI, bi_minI, isN_N, isN_I, isN_S, isN_R, truth_B, it_range1, it_range2, LM.isL, app_L, Bool.not_false, Bool.not_true]
  generalize hs1 : Str.ofString " !\"#$&'()*+,-./0123456789:;<=>?@ABCDEFGHIJKLMNOPQRSTUVWXYZ[\\]^_`" = s1 at l1 ⊢
  generalize hs2 : Str.ofString "abcdefghijklmnopqrstuvwxyz{|}~" = s2 at l2 ⊢
  have l3 : (s1 ++ s2).length = 94 := by rw [len_append]; omega
  refine ⟨by unfold szl; omega, ⟨by decide, sdl (by decide)⟩, by decide, ?_⟩
  split
  · refine ⟨some 3, some 91, rfl, rfl, fun r1 h1 => ⟨some 40, some 50, rfl, rfl, fun r2 h2 => ?_⟩⟩
    simp only [Option.elim, l3] at h1 h2
    have e1 : PySem.clipAt 94 91 = 91 := by decide
    have e2 : PySem.clipAt 94 3 = 3 := by decide
    have e3 : PySem.clipAt 94 50 = 50 := by decide
    have e4 : PySem.clipAt 94 40 = 40 := by decide
    rw [e1, e2] at h1
    rw [e3, e4] at h2
    have hm := mod_pos (b := 98) (by decide) (num.fdiv 117)
    have hm' := mod_pos (b := 94) (by decide) (num.fdiv 11466)
    refine ⟨by unfold szl; omega, ⟨by decide, sdl (by decide)⟩, by decide, none, some _, rfl, rfl, fun r3 h3 => ⟨⟨by decide, sdl (by decide)⟩, by decide, ⟨hm'.1, by omega, by omega⟩, fun r4 h4 => ⟨?_, some _, none, rfl, rfl, fun r5 h5 => ⟨?_, h _ ?_⟩⟩⟩⟩
    all_goals (simp only [Option.elim, len_append] at *)
    · have := PySem.clipAt
      have hc : PySem.clipAt (r1.length + r2.length) ((num.fdiv 117).fmod 98) ≤ r1.length + r2.length := by unfold PySem.clipAt; omega
      unfold szl; omega
    · have hc : PySem.clipAt (r1.length + r2.length) ((num.fdiv 117).fmod 98) ≤ r1.length + r2.length := by unfold PySem.clipAt; omega
      unfold szl; omega
    · have hc : PySem.clipAt (r1.length + r2.length) ((num.fdiv 117).fmod 98) ≤ r1.length + r2.length := by unfold PySem.clipAt; omega
      omega
  · have hm := mod_pos (b := 13) (by decide) num
    refine ⟨by decide, ?_⟩
    refine ⟨by omega, ?_⟩
    refine forLoop_inv (fun i env μ' => μ' = μ ∧ ∃ nm word x5, env = [some (.int nm), some (.str (s1 ++ s2)), none, none, some (.str word), x5] ∧ word.length ≤ i) ⟨rfl, num, _, none, rfl, by rw [l0]; exact Nat.le_refl _⟩ trivial ?_ ?_
    · rintro i v env μ' K hv ⟨rfl, nm, word, x5, rfl, hw⟩ _ k1 k2 k3
      obtain ⟨rfl, hi⟩ := rangeL_get hv
      have hm' := mod_pos (b := 94) (by decide) (((nm * 48271 + 11).fmod 2147483647).fdiv 1000)
      dsimp only [bindT, wpSs, wpS, wpE, wpEs, wpT, wpTs, wpB, retVal, List.length_cons, List.length_nil, lg0, lgS, ls0, lsS, Nat.reduceAdd, bin_addI, bin_subI, bin_mulI, bin_fdivI, bin_modI, bin_addS, eq_II, eq_SS, eq_NN, eq_NI, eq_NS, eq_IN, eq_SN, eq_BB, cmp_eq, cmp_ne, cmp_isN, cmp_isnotN, cmp_in, cmp_notin, cmp_lt, cmp_le, cmp_gt, cmp_ge, idx_S, bi_lenS, bi_maxI, bi_minI, isN_N, isN_I, isN_S, isN_R, truth_B, it_range1, it_range2, LM.isL, app_L, Bool.not_false, Bool.not_true]
      refine ⟨.inr (by unfold small; omega), by decide, ⟨by decide, sdl (by decide)⟩, by decide, ⟨hm'.1, by omega, by omega⟩, fun r hr => ⟨by unfold szl; omega, ?_⟩⟩
      exact k1 _ _ ⟨rfl, _, _, _, rfl, by rw [len_append]; omega⟩ trivial
    · rintro env μ' ⟨rfl, nm, word, x5, rfl, hw⟩ _
      dsimp only [wpSs, wpS, wpE, wpEs, wpT, wpTs, wpB, retVal, List.length_cons, List.length_nil, lg0, lgS, ls0, lsS, Nat.reduceAdd, bin_addI, bin_subI, bin_mulI, bin_fdivI, bin_modI, bin_addS, eq_II, eq_SS, eq_NN, eq_NI, eq_NS, eq_IN, eq_SN, eq_BB, cmp_eq, cmp_ne, cmp_isN, cmp_isnotN, cmp_in, cmp_notin, cmp_lt, cmp_le, cmp_gt, cmp_ge, idx_S, bi_lenS, bi_maxI, bi_minI, isN_N, isN_I, isN_S, isN_R, truth_B, it_range1, it_range2, LM.isL, app_L, Bool.not_false, Bool.not_true]
      refine h _ ?_
      rw [rangeL_len] at hw
      omega

omit hP in
theorem clip_nat {n k : Nat} (hk : k ≤ n) : PySem.clipAt n (k : Int) = k := by unfold PySem.clipAt; omega
omit hP in
theorem sl_pre {s : Str} {k : Nat} {μ : Mem} {Q : VQ} (hk : k ≤ s.length) (h : ∀ r : Str, r.length = k → Q (.str r) μ) : wpSlice (.str s) .none (.int (k : Int)) μ Q :=
  ⟨none, some _, rfl, rfl, fun r hr => h r (by rw [hr]; exact clip_nat hk)⟩
omit hP in
theorem sl_suf {s : Str} {k : Nat} {μ : Mem} {Q : VQ} (hk : k + 1 ≤ s.length) (h : ∀ r : Str, r.length = s.length - (k + 1) → Q (.str r) μ) : wpSlice (.str s) (.int ((k : Int) + 1)) .none μ Q :=
  ⟨some _, none, rfl, rfl, fun r hr => h r (by rw [hr]; exact congrArg (s.length - ·) (clip_nat (k := k + 1) hk))⟩
omit hP in
theorem sl_mid {s : Str} {k j : Nat} {μ : Mem} {Q : VQ} (hk : k + 1 ≤ s.length) (hj : j ≤ s.length) (h : ∀ r : Str, r.length = j - (k + 1) → Q (.str r) μ) : wpSlice (.str s) (.int ((k : Int) + 1)) (.int (j : Int)) μ Q :=
  ⟨some _, some _, rfl, rfl, fun r hr => h r (by rw [hr]; exact (congrArg (· - PySem.clipAt s.length ((k : Int) + 1)) (clip_nat hj)).trans (congrArg (j - ·) (clip_nat (k := k + 1) hk)))⟩
omit hP in
theorem ch_a {n k a b c : Nat} (ha : a = k) (hb : b = 1) (hc : c = n - (k + 1)) (hk : k < n) (hn : n ≤ 1000000) : a + b ≤ szl ∧ a + b + c ≤ szl ∧ a + b + c = n := by unfold szl; omega
omit hP in
theorem ch_b {n k j a b c d e : Nat} (ha : a = 1) (hb : b = j - (k + 1)) (hc : c = 1) (hd : d = k) (he : e = n - (j + 1)) (hk : k < j) (hj : j < n) (hn : n ≤ 1000000) : a + b ≤ szl ∧ a + b + c ≤ szl ∧ d + (a + b + c) ≤ szl ∧ d + (a + b + c) + e ≤ szl ∧ d + (a + b + c) + e = n := by unfold szl; omega
omit hP in
theorem ch_lh {one two n : Int} (h1 : 0 ≤ one ∧ one < n) (h2 : 0 ≤ two ∧ two < n) : ∃ low high : Nat, (if two < one then two else one) = (low : Int) ∧ (if one < two then two else one) = (high : Int) ∧ low ≤ high ∧ (high : Int) < n := by
  by_cases h : one < two
  · exact ⟨one.toNat, two.toNat, by rw [if_neg (by omega)]; omega, by rw [if_pos h]; omega, by omega, by omega⟩
  · by_cases h' : two < one
    · exact ⟨two.toNat, one.toNat, by rw [if_pos h']; omega, by rw [if_neg h]; omega, by omega, by omega⟩
    · exact ⟨one.toNat, one.toNat, by rw [if_neg h']; omega, by rw [if_neg h]; omega, by omega, by omega⟩
omit hP in
theorem ch_ix {k n : Nat} (h : k < n) (hn : n ≤ 1000000) : 0 ≤ (k : Int) ∧ (k : Int) < n ∧ (k : Int) < 1000000000 := by omega
omit hP in
theorem ch_ix' {k : Int} {n : Nat} (h : 0 ≤ k ∧ k < n) (hn : n ≤ 1000000) : 0 ≤ k ∧ k < n ∧ k < 1000000000 := by omega

theorem spec_changed {n : Nat} {s : Str} {num : Int} {μ : Mem} {Q : VQ} {X : XQ} (hs : s.length ≤ 1000000) (h : ∀ r : Str, r.length ≤ s.length + 1 → Q (.str r) μ) : callN P (n + 1) (.fn (Str.ofString "_law_changed")) [.str s, .int num] μ Q X := by
  refine call_fn hP.changed rfl ?_
  have l1 : (Str.ofString "0123456789abcdefghij").length = 20 := by decide +kernel
  change wpSs P (callN P n) f__law_changed.body [some (.str s), some (.int num), none, none, none, none, none, none] μ _ _
  dsimp only [f__law_changed, wpSs, wpS, wpE, wpEs, wpT, wpTs, wpB, retVal, List.length_cons, List.length_nil, lg0, lgS, ls0, lsS, Nat.reduceAdd, bin_addI, bin_subI, bin_mulI, bin_fdivI, bin_modI, bin_addS, eq_II, eq_SS, eq_NN, eq_NI, eq_NS, eq_IN, eq_SN, eq_BB, cmp_eq, cmp_ne, cmp_isN, cmp_isnotN, cmp_in, cmp_notin, cmp_lt, cmp_le, cmp_gt, cmp_ge, idx_S, bi_lenS, bi_maxI, bi_minI, isN_N, isN_I, isN_S, isN_R, truth_B, it_range1, it_range2, LM.isL, app_L, Bool.not_false, Bool.not_true]
  generalize hs1 : Str.ofString "0123456789abcdefghij" = s1 at l1 ⊢
  have hm := mod_pos (b := 20) (by decide) (num.fdiv 9409)
  refine ⟨⟨by decide, sdl (by decide)⟩, by decide, ch_ix' (by rw [l1]; exact hm) (by rw [l1]; decide), fun sg hsg => ?_⟩
  clear hm
  split
  · exact ⟨by rw [hsg]; exact Nat.le_trans (Nat.succ_le_succ hs) (by decide), h _ (by rw [len_append, hsg]; exact Nat.le_refl _)⟩
  · rename_i e
    have h2 : 2 ≤ s.length := by have := of_decide_eq_false e; clear hs1 l1 h hs hsg e; omega
    have hz : (s.length : Int) ≠ 0 := by clear hs1 l1 h hs hsg e; omega
    have hz' : 0 < (s.length : Int) := by clear hs1 l1 h hs hsg e; omega
    refine ⟨hz, ⟨by decide, sdl (by decide)⟩, hz, ?_⟩
    obtain ⟨low, high, e1, e2, hle, hhigh⟩ := ch_lh (mod_pos hz' num) (mod_pos hz' (num.fdiv 97))
    have hhigh : high < s.length := Int.ofNat_lt.mp hhigh
    have hlow : low < s.length := Nat.lt_of_le_of_lt hle hhigh
    rw [e1, e2]
    have fin : ∀ r : Str, r.length = s.length → Q (.str r) μ := fun r hr => h r (by rw [hr]; exact Nat.le_succ _)
    have A1 : wpSlice (Val.str s) Val.none (Val.int ↑low) μ fun va μ₁ => wpBin BOp.add va (Val.str sg) μ₁ fun va μ₁ => wpSlice (Val.str s) (Val.int (↑low + 1)) Val.none μ₁ fun vb μ₂ => wpBin BOp.add va vb μ₂ fun v μ' => Q v μ' := by
      refine sl_pre (Nat.le_of_lt hlow) fun r1 h1 => ?_
      have g := ch_a h1 hsg (Eq.refl (s.length - (low + 1))) hlow hs
      refine ⟨g.1, sl_suf hlow fun r2 h2 => ?_⟩
      exact ⟨by rw [len_append, h2]; exact g.2.1, fin _ (by rw [len_append, len_append, h2]; exact g.2.2)⟩
    split
    · rename_i hne
      have hlt : low < high := Nat.lt_of_le_of_ne hle fun q => by subst q; simp at hne
      refine ⟨⟨by decide, sdl (by decide)⟩, by decide, ?_⟩
      split
      · refine ⟨ch_ix hhigh hs, fun r1 h1 => sl_mid hlow (Nat.le_of_lt hhigh) fun r2 h2 => ?_⟩
        have g := fun (c d e : Nat) hc hd he => ch_b (c := c) (d := d) (e := e) h1 h2 hc hd he hlt hhigh hs
        have g0 := g _ _ _ rfl rfl rfl
        refine ⟨g0.1, ch_ix hlow hs, fun r3 h3 => ⟨by rw [len_append, h3]; exact g0.2.1, sl_pre (Nat.le_of_lt hlow) fun r4 h4 => ⟨by rw [len_append, len_append, h3, h4]; exact g0.2.2.1, sl_suf hhigh fun r5 h5 => ⟨by rw [len_append, len_append, len_append, h3, h4, h5]; exact g0.2.2.2.1, fin _ (by rw [len_append, len_append, len_append, len_append, h3, h4, h5]; exact g0.2.2.2.2)⟩⟩⟩⟩
      · exact A1
    · exact A1

omit hP in
theorem seq_cut {C : CT} {s : MS} {ss : List MS} {env : Env} {μ : Mem} {Q : SQ} {X : Str → Env → Mem → Prop} (J : Env → Mem → Prop) (h1 : ∀ K : SQ, (∀ env' μ', J env' μ' → K .next env' μ') → (∀ r env' μ', Q (.ret r) env' μ' → K (.ret r) env' μ') → (∀ env' μ', Q .cont env' μ' → K .cont env' μ') → wpS P C s env μ K X)
    (h2 : ∀ env' μ', J env' μ' → wpSs P C ss env' μ' Q X) : wpSs P C (s :: ss) env μ Q X := by
  simp only [wpSs]
  exact h1 _ (fun env' μ' h => h2 env' μ' h) (fun r env' μ' h => h) (fun env' μ' h => h)

omit hP in
theorem filter_lt {α : Type} {l : List α} {p q : α → Bool} (h : ∀ x ∈ l, q x = true → p x = true) {y : α} (hy : y ∈ l) (h1 : p y = true) (h2 : q y = false) : (l.filter q).length < (l.filter p).length := by
  have e : l.filter q = (l.filter p).filter q := by
    rw [List.filter_filter]
    refine List.filter_congr fun x hx => ?_
    cases hq : q x with
    | false => simp
    | true => simp [h x hx hq]
  rw [e]
  exact List.length_filter_lt_length_iff_exists.mpr ⟨y, List.mem_filter.mpr ⟨hy, h1⟩, by simp [h2]⟩

theorem spec_names {n : Nat} {cell : Int} {many : Nat} {μ : Mem} {Q : VQ} {X : XQ} (hm : many ≤ 900)
    (h : ∀ a (xs : List Str), μ a = none → xs.length = many → xs.Nodup → (∀ x ∈ xs, x.length ≤ 1000000) → Q (.ref a) (upd μ a (.list (xs.map .str)))) : callN P (n + 2) (.fn (Str.ofString "_law_names")) [.int cell, .int many] μ Q X := by
  refine call_fn hP.names rfl ?_
  have l1 : (Str.ofString "~").length = 1 := by decide +kernel
  change wpSs P (callN P (n + 1)) f__law_names.body [some (.int cell), some (.int many), none, none, none, none] μ _ _
  unfold f__law_names
  generalize hs1 : Str.ofString "~" = tl at l1 ⊢
  refine seq_cut (J := fun env' μ' => ∃ a, μ a = none ∧ μ' = upd μ a (.list []) ∧ env' = [some (.int cell), some (.int many), some (.ref a), none, none, none]) ?_ ?_
  · intro K j1 j2 j3
    dsimp only [wpSs, wpS, wpE, wpEs, wpT, wpTs, wpB, retVal, List.length_cons, List.length_nil, lg0, lgS, ls0, lsS, Nat.reduceAdd, bin_addI, bin_subI, bin_mulI, bin_fdivI, bin_modI, bin_addS, eq_II, eq_SS, eq_NN, eq_NI, eq_NS, eq_IN, eq_SN, eq_BB, cmp_eq, cmp_ne, cmp_isN, cmp_isnotN, cmp_in, cmp_notin, cmp_lt, cmp_le, cmp_gt, cmp_ge, idx_S, bi_lenS, bi_maxI, bi_minI, isN_N, isN_I, isN_S, isN_R, truth_B, it_range1, it_range2, LM.isL, app_L, Bool.not_false, Bool.not_true]
    exact ⟨by decide, fun a ha => j1 _ _ ⟨a, ha, rfl, rfl⟩⟩
  rintro env' μ' ⟨a, ha, rfl, rfl⟩
  rw [wpSs, wpS]
  simp only [wpE, wpEs, List.getElem?_cons_zero, List.getElem?_cons_succ, it_range1]
  refine ⟨by omega, ?_⟩
  refine forLoop_inv (fun i env μ' => ∃ (xs : List Str) (x3 x4 x5 : Option Val), μ' = upd μ a (.list (xs.map .str)) ∧ env = [some (.int cell), some (.int many), some (.ref a), x3, x4, x5] ∧ xs.length = i ∧ xs.Nodup ∧ ∀ x ∈ xs, x.length ≤ 501 + 902 * i)
    ⟨[], none, none, none, rfl, rfl, rfl, List.nodup_nil, fun x hx => nomatch hx⟩ trivial ?_ ?_
  · rintro i v env μ' K hv ⟨xs, x3, x4, x5, rfl, rfl, hl, hnd, hb⟩ _ k1 k2 k3
    obtain ⟨rfl, hi⟩ := rangeL_get hv
    have hi' : i < many := by omega
    simp only [bindT, List.set_cons_zero, List.set_cons_succ, Int.zero_add]
    refine seq_cut (J := fun env' μ' => ∃ num, μ' = upd μ a (.list (xs.map .str)) ∧ env' = [some (.int cell), some (.int many), some (.ref a), some (.int (i : Int)), some (.int num), x5]) ?_ ?_
    · intro K' j1 j2 j3
      dsimp only [wpSs, wpS, wpE, wpEs, wpT, wpTs, wpB, retVal, List.length_cons, List.length_nil, lg0, lgS, ls0, lsS, Nat.reduceAdd, bin_addI, bin_subI, bin_mulI, bin_fdivI, bin_modI, bin_addS, eq_II, eq_SS, eq_NN, eq_NI, eq_NS, eq_IN, eq_SN, eq_BB, cmp_eq, cmp_ne, cmp_isN, cmp_isnotN, cmp_in, cmp_notin, cmp_lt, cmp_le, cmp_gt, cmp_ge, idx_S, bi_lenS, bi_maxI, bi_minI, isN_N, isN_I, isN_S, isN_R, truth_B, it_range1, it_range2, LM.isL, app_L, Bool.not_false, Bool.not_true]
      refine spec_mixed hP ?_ (j1 _ _ ⟨_, rfl, rfl⟩)
      omega
    rintro env' μ' ⟨num, rfl, rfl⟩
    refine seq_cut (J := fun env' μ' => ∃ num, μ' = upd μ a (.list (xs.map .str)) ∧ env' = [some (.int cell), some (.int many), some (.ref a), some (.int (i : Int)), some (.int num), x5]) ?_ ?_
    · intro K' j1 j2 j3
      dsimp only [wpSs, wpS, wpE, wpEs, wpT, wpTs, wpB, retVal, List.length_cons, List.length_nil, lg0, lgS, ls0, lsS, Nat.reduceAdd, bin_addI, bin_subI, bin_mulI, bin_fdivI, bin_modI, bin_addS, eq_II, eq_SS, eq_NN, eq_NI, eq_NS, eq_IN, eq_SN, eq_BB, cmp_eq, cmp_ne, cmp_isN, cmp_isnotN, cmp_in, cmp_notin, cmp_lt, cmp_le, cmp_gt, cmp_ge, idx_S, bi_lenS, bi_maxI, bi_minI, isN_N, isN_I, isN_S, isN_R, truth_B, it_range1, it_range2, LM.isL, app_L, Bool.not_false, Bool.not_true]
      refine ⟨by decide, ?_⟩
      split
      · exact ⟨.inl (by unfold small; omega), j1 _ _ ⟨_, rfl, rfl⟩⟩
      · exact j1 _ _ ⟨_, rfl, rfl⟩
    rintro env' μ' ⟨num, rfl, rfl⟩
    refine seq_cut (J := fun env' μ' => ∃ nm : Str, nm.length ≤ 501 + 902 * i ∧ μ' = upd μ a (.list (xs.map .str)) ∧ env' = [some (.int cell), some (.int many), some (.ref a), some (.int (i : Int)), some (.int num), some (.str nm)]) ?_ ?_
    · intro K' j1 j2 j3
      dsimp only [wpSs, wpS, wpE, wpEs, wpT, wpTs, wpB, retVal, List.length_cons, List.length_nil, lg0, lgS, ls0, lsS, Nat.reduceAdd, bin_addI, bin_subI, bin_mulI, bin_fdivI, bin_modI, bin_addS, eq_II, eq_SS, eq_NN, eq_NI, eq_NS, eq_IN, eq_SN, eq_BB, cmp_eq, cmp_ne, cmp_isN, cmp_isnotN, cmp_in, cmp_notin, cmp_lt, cmp_le, cmp_gt, cmp_ge, idx_S, bi_lenS, bi_maxI, bi_minI, isN_N, isN_I, isN_S, isN_R, truth_B, it_range1, it_range2, LM.isL, app_L, Bool.not_false, Bool.not_true]
      exact spec_text hP fun r hr => j1 _ _ ⟨r, by omega, rfl, rfl⟩
    rintro env' μ' ⟨nm, hnm, rfl, rfl⟩
    refine seq_cut (J := fun env' μ' => ∃ nm : Str, nm.length ≤ 502 + 902 * i ∧ μ' = upd μ a (.list (xs.map .str)) ∧ env' = [some (.int cell), some (.int many), some (.ref a), some (.int (i : Int)), some (.int num), some (.str nm)]) ?_ ?_
    · intro K' j1 j2 j3
      dsimp only [wpSs, wpS, wpE, wpEs, wpT, wpTs, wpB, retVal, List.length_cons, List.length_nil, lg0, lgS, ls0, lsS, Nat.reduceAdd, bin_addI, bin_subI, bin_mulI, bin_fdivI, bin_modI, bin_addS, eq_II, eq_SS, eq_NN, eq_NI, eq_NS, eq_IN, eq_SN, eq_BB, cmp_eq, cmp_ne, cmp_isN, cmp_isnotN, cmp_in, cmp_notin, cmp_lt, cmp_le, cmp_gt, cmp_ge, idx_S, bi_lenS, bi_maxI, bi_minI, isN_N, isN_I, isN_S, isN_R, truth_B, it_range1, it_range2, LM.isL, app_L, Bool.not_false, Bool.not_true]
      split
      · rename_i hgt
        have hpos : 0 < i := by have := of_decide_eq_true hgt; omega
        refine ⟨⟨by decide, sdl (by decide)⟩, by decide, ?_⟩
        split
        · have hmm := mod_pos (b := (i : Int)) (by omega) (num.fdiv 10)
          refine ⟨⟨by decide, sdl (by decide)⟩, by omega, ?_⟩
          rw [idx_L (updS _ _ _)]
          have hlt : ((num.fdiv 10).fmod i).toNat < xs.length := by omega
          refine ⟨.str xs[((num.fdiv 10).fmod i).toNat], ?_, ⟨by decide, sdl (by decide)⟩, ?_⟩
          · unfold pyGet
            rw [if_pos hmm.1, List.getElem?_map, List.getElem?_eq_getElem hlt]; rfl
          · have hbb := hb _ (List.getElem_mem hlt)
            exact spec_changed hP (by omega) fun r hr => j1 _ _ ⟨r, by omega, rfl, rfl⟩
        · exact j1 _ _ ⟨nm, by omega, rfl, rfl⟩
      · exact j1 _ _ ⟨nm, by omega, rfl, rfl⟩
    rintro env' μ' ⟨nm, hnm, rfl, rfl⟩
    refine seq_cut (J := fun env' μ' => ∃ nm : Str, nm.length ≤ 502 + 902 * i + i ∧ nm ∉ xs ∧ μ' = upd μ a (.list (xs.map .str)) ∧ env' = [some (.int cell), some (.int many), some (.ref a), some (.int (i : Int)), some (.int num), some (.str nm)]) ?_ ?_
    · intro K' j1 j2 j3
      simp only [wpS]
      refine ⟨fun m env' μ' => ∃ nm : Str, nm.length + m ≤ 502 + 902 * i + i ∧ m = (xs.filter fun x => decide (nm.length ≤ x.length)).length ∧ μ' = upd μ a (.list (xs.map .str)) ∧ env' = [some (.int cell), some (.int many), some (.ref a), some (.int (i : Int)), some (.int num), some (.str nm)], ⟨_, nm, ?_, rfl, rfl, rfl⟩, ?_⟩
      · have := List.length_filter_le (fun x : Str => decide (nm.length ≤ x.length)) xs
        omega
      · rintro m env' μ' ⟨nm, h1, h2, rfl, rfl⟩
        dsimp only [wpSs, wpS, wpE, wpEs, wpT, wpTs, wpB, retVal, List.length_cons, List.length_nil, lg0, lgS, ls0, lsS, Nat.reduceAdd, bin_addI, bin_subI, bin_mulI, bin_fdivI, bin_modI, bin_addS, eq_II, eq_SS, eq_NN, eq_NI, eq_NS, eq_IN, eq_SN, eq_BB, cmp_eq, cmp_ne, cmp_isN, cmp_isnotN, cmp_in, cmp_notin, cmp_lt, cmp_le, cmp_gt, cmp_ge, idx_S, bi_lenS, bi_maxI, bi_minI, isN_N, isN_I, isN_S, isN_R, truth_B, it_range1, it_range2, LM.isL, app_L, Bool.not_false, Bool.not_true]
        refine in_strs (updS _ _ _) ?_
        split
        · rename_i hin
          have hin := of_decide_eq_true hin
          refine ⟨by unfold szl; omega, ?_⟩
          have hlt := filter_lt (l := xs) (p := fun x => decide (nm.length ≤ x.length)) (q := fun x => decide ((nm ++ tl).length ≤ x.length)) (fun x _ hq => by
            have := of_decide_eq_true hq
            rw [len_append] at this
            exact decide_eq_true (by omega)) hin (decide_eq_true (Nat.le_refl _)) (decide_eq_false (by rw [len_append]; omega))
          have e : (nm ++ tl).length = nm.length + 1 := by rw [len_append, l1]
          exact ⟨(xs.filter fun x => decide ((nm ++ tl).length ≤ x.length)).length, by omega, nm ++ tl, by omega, rfl, rfl, rfl⟩
        · rename_i hin
          exact j1 _ _ ⟨nm, by omega, of_decide_eq_false hin, rfl, rfl⟩
    rintro env' μ' ⟨nm, hnm, hin, rfl, rfl⟩
    dsimp only [wpSs, wpS, wpE, wpEs, wpT, wpTs, wpB, retVal, List.length_cons, List.length_nil, lg0, lgS, ls0, lsS, Nat.reduceAdd, bin_addI, bin_subI, bin_mulI, bin_fdivI, bin_modI, bin_addS, eq_II, eq_SS, eq_NN, eq_NI, eq_NS, eq_IN, eq_SN, eq_BB, cmp_eq, cmp_ne, cmp_isN, cmp_isnotN, cmp_in, cmp_notin, cmp_lt, cmp_le, cmp_gt, cmp_ge, idx_S, bi_lenS, bi_maxI, bi_minI, isN_N, isN_I, isN_S, isN_R, truth_B, it_range1, it_range2, LM.isL, app_L, Bool.not_false, Bool.not_true]
    rw [updS]
    dsimp only [wpSs, wpS, wpE, wpEs, wpT, wpTs, wpB, retVal, List.length_cons, List.length_nil, lg0, lgS, ls0, lsS, Nat.reduceAdd, bin_addI, bin_subI, bin_mulI, bin_fdivI, bin_modI, bin_addS, eq_II, eq_SS, eq_NN, eq_NI, eq_NS, eq_IN, eq_SN, eq_BB, cmp_eq, cmp_ne, cmp_isN, cmp_isnotN, cmp_in, cmp_notin, cmp_lt, cmp_le, cmp_gt, cmp_ge, idx_S, bi_lenS, bi_maxI, bi_minI, isN_N, isN_I, isN_S, isN_R, truth_B, it_range1, it_range2, LM.isL, app_L, Bool.not_false, Bool.not_true]
    refine ⟨rfl, by rw [List.length_map]; unfold szl; omega, k1 _ _ ⟨xs ++ [nm], _, _, _, ?_, rfl, by simp [hl], ?_, ?_⟩ trivial⟩
    · rw [upd_upd, List.map_append]; rfl
    · rw [List.nodup_append]
      exact ⟨hnd, by simp, fun x hx y hy => by rintro rfl; rw [List.mem_singleton] at hy; subst hy; exact hin hx⟩
    · intro x hx
      rcases List.mem_append.mp hx with q | q
      · have := hb x q; omega
      · rw [List.mem_singleton] at q; subst q; omega
  · rintro env μ' ⟨xs, x3, x4, x5, rfl, rfl, hl, hnd, hb⟩ _
    dsimp only [wpSs, wpS, wpE, wpEs, wpT, wpTs, wpB, retVal, List.length_cons, List.length_nil, lg0, lgS, ls0, lsS, Nat.reduceAdd, bin_addI, bin_subI, bin_mulI, bin_fdivI, bin_modI, bin_addS, eq_II, eq_SS, eq_NN, eq_NI, eq_NS, eq_IN, eq_SN, eq_BB, cmp_eq, cmp_ne, cmp_isN, cmp_isnotN, cmp_in, cmp_notin, cmp_lt, cmp_le, cmp_gt, cmp_ge, idx_S, bi_lenS, bi_maxI, bi_minI, isN_N, isN_I, isN_S, isN_R, truth_B, it_range1, it_range2, LM.isL, app_L, Bool.not_false, Bool.not_true]
    rw [rangeL_len] at hl hb
    refine h a xs ha (by omega) hnd fun x hx => ?_
    have := hb x hx
    omega
end
end Mine

-- part M01
namespace Mine
open PySem (Str Addr PyData)
-- 0 wants, 1 held, 2 start, 3 row, 4 lock, 5 owner
def f_ring_from : FD := ⟨3, 6, [
  .asg 3 (.list [(.var 2)]),
  .while (.lit (.bool true)) [
    .asg 4 (.idx (.var 0) (.idx (.var 3) (.neg (.lit (.int (1)))))),
    .ite (.cmp .is (.var 4) (.lit .none)) [
      .ret (.list [])] [],
    .asg 5 (.idx (.var 1) (.var 4)),
    .ite (.cmp .is (.var 5) (.lit .none)) [
      .ret (.list [])] [],
    .ite (.cmp .eq (.var 5) (.var 2)) [
      .ret (.var 3)] [],
    .ite (.cmp .isin (.var 5) (.var 3)) [
      .ret (.list [])] [],
    .expr (.meth (.var 3) (Str.ofString "append") .append [(.var 5)])]]⟩
-- 0 _law_names_here, 1 _law_many, 2 _law_cell, 3 _law_about, 4 _law_held_here, 5 _law_k
def f__law_held : FD := ⟨4, 6, [
  .asg 4 (.dict false []),
  .for [5] .range [(.bi .len [(.var 0)])] [
    .asgIdx (.var 4) (.idx (.var 0) (.var 5)) (.bin .mod (.call (Str.ofString "_law_mixed") [(.var 2), (.var 5)]) (.bin .add (.var 1) (.lit (.int (1))))),
    .ite (.cmp .eq (.idx (.var 4) (.idx (.var 0) (.var 5))) (.var 1)) [
      .asgIdx (.var 4) (.idx (.var 0) (.var 5)) (.lit .none)] [],
    .ite (.var 3) [
      .asgIdx (.var 4) (.idx (.var 0) (.var 5)) (.var 5)] []],
  .ret (.var 4)]⟩
-- 0 _law_wants, 1 _law_held_here, 2 _law_start, 3 _law_due_here, 4 _law_here, 5 _law_lock
def f__law_due : FD := ⟨3, 6, [
  .asg 3 (.list []),
  .asg 4 (.var 2),
  .while (.bool true [(.cmp .isnot (.var 4) (.lit .none)), (.cmp .notin (.var 4) (.var 3))]) [
    .expr (.meth (.var 3) (Str.ofString "append") .append [(.var 4)]),
    .asg 5 (.idx (.var 0) (.var 4)),
    .asg 4 (.lit .none),
    .ite (.cmp .isnot (.var 5) (.lit .none)) [
      .asg 4 (.idx (.var 1) (.var 5))] []],
  .ite (.cmp .eq (.var 4) (.var 2)) [
    .ret (.var 3)] [],
  .ret (.list [])]⟩
-- 0 _law_script, 1 _law_many, 2 _law_about, 3 _law_size, 4 _law_names_here, 5 _law_cell, 6 _law_held_here, 7 _law_wants, 8 _law_far, 9 _law_k, 10 _law_name, 11 _law_start, 12 _law_handed, 13 _law_found, 14 _law_one
def f_law : FD := ⟨1, 15, [
  .asg 1 (.bin .add (.lit (.int (1))) (.bin .mod (.call (Str.ofString "_law_cell_at") [(.var 0), (.lit (.int (0)))]) (.lit (.int (12))))),
  .ite (.cmp .eq (.bin .mod (.bin .fdiv (.call (Str.ofString "_law_cell_at") [(.var 0), (.lit (.int (0)))]) (.lit (.int (12)))) (.lit (.int (4)))) (.lit (.int (1)))) [
    .asg 1 (.bin .add (.lit (.int (1))) (.bin .mod (.bin .fdiv (.call (Str.ofString "_law_cell_at") [(.var 0), (.lit (.int (0)))]) (.lit (.int (48)))) (.lit (.int (200)))))] [],
  .asg 2 (.cmp .eq (.bin .mod (.call (Str.ofString "_law_cell_at") [(.var 0), (.lit (.int (1)))]) (.lit (.int (3)))) (.lit (.int (1)))),
  .asg 3 (.bin .add (.lit (.int (1))) (.bin .mod (.bin .fdiv (.call (Str.ofString "_law_cell_at") [(.var 0), (.lit (.int (1)))]) (.lit (.int (3)))) (.lit (.int (12))))),
  .ite (.var 2) [
    .asg 3 (.var 1)] [],
  .asg 4 (.call (Str.ofString "_law_names") [(.call (Str.ofString "_law_cell_at") [(.var 0), (.lit (.int (2)))]), (.var 3)]),
  .asg 5 (.call (Str.ofString "_law_cell_at") [(.var 0), (.lit (.int (3)))]),
  .asg 6 (.call (Str.ofString "_law_held") [(.var 4), (.var 1), (.var 5), (.var 2)]),
  .asg 7 (.list []),
  .asg 8 (.bin .add (.lit (.int (1))) (.bin .mod (.bin .fdiv (.call (Str.ofString "_law_cell_at") [(.var 0), (.lit (.int (4)))]) (.lit (.int (2)))) (.bi .max [(.lit (.int (1))), (.bin .sub (.var 1) (.lit (.int (1))))]))),
  .for [9] .range [(.var 1)] [
    .asg 10 (.idx (.var 4) (.bin .mod (.call (Str.ofString "_law_mixed") [(.var 5), (.bin .add (.var 9) (.lit (.int (100))))]) (.var 3))),
    .ite (.var 2) [
      .asg 10 (.idx (.var 4) (.bin .mod (.bin .add (.var 9) (.var 8)) (.var 3)))] [],
    .ite (.bool false [(.cmp .eq (.idx (.var 6) (.var 10)) (.var 9)), (.bool true [(.not (.var 2)), (.cmp .eq (.bin .mod (.call (Str.ofString "_law_mixed") [(.var 5), (.bin .add (.var 9) (.lit (.int (200))))]) (.lit (.int (4)))) (.lit (.int (0))))])]) [
      .asg 10 (.lit .none)] [],
    .expr (.meth (.var 7) (Str.ofString "append") .append [(.var 10)])],
  .ite (.cmp .eq (.bin .mod (.call (Str.ofString "_law_cell_at") [(.var 0), (.lit (.int (4)))]) (.lit (.int (2)))) (.lit (.int (1)))) [
    .asgIdx (.var 7) (.bin .mod (.call (Str.ofString "_law_cell_at") [(.var 0), (.lit (.int (5)))]) (.var 1)) (.lit .none)] [],
  .asg 11 (.bin .mod (.call (Str.ofString "_law_cell_at") [(.var 0), (.lit (.int (6)))]) (.var 1)),
  .asg 12 (.list [(.bi .list [(.var 7)]), (.bi .dict [(.var 6)])]),
  .asg 13 (.call (Str.ofString "ring_from") [(.idx (.var 12) (.lit (.int (0)))), (.idx (.var 12) (.lit (.int (1)))), (.var 11)]),
  .ite (.bool false [(.not (.isinst (.var 13) .list)), (.cmp .ne (.var 13) (.call (Str.ofString "_law_due") [(.var 7), (.var 6), (.var 11)]))]) [
    .ret (.lit (.bool false))] [],
  .for [14] .val [(.var 13)] [
    .ite (.not (.call (Str.ofString "_law_whole") [(.var 14)])) [
      .ret (.lit (.bool false))] []],
  .ret (.bool true [(.cmp .eq (.idx (.var 12) (.lit (.int (0)))) (.var 7)), (.cmp .eq (.idx (.var 12) (.lit (.int (1)))) (.var 6))])]⟩

end Mine

-- part L01
namespace Mine
open PySem (Str Addr PyData)

def WOk (many : Nat) (names : List Str) (vs : List Val) : Prop := vs.length = many ∧ ∀ v ∈ vs, v = .none ∨ ∃ x ∈ names, v = .str x
def HOk (many : Nat) (names : List Str) (es : List (Str × Val)) : Prop := es.map (·.1) = names ∧ ∀ p ∈ es, p.2 = .none ∨ ∃ j : Int, 0 ≤ j ∧ j < many ∧ p.2 = .int j

def nxt (vs : List Val) (es : List (Str × Val)) (i : Int) : Option Int := match pyGet vs i with
  | some (.str x) => match look es x with
    | some (.int j) => some j
    | _ => none
  | _ => none

def chase (f : Int → Option Int) (start : Int) : Nat → List Int → Int → List Int
  | 0, _, _ => []
  | n + 1, pre, last => match f last with
    | none => []
    | some o => if o = start then pre ++ [last] else if o ∈ pre ++ [last] then [] else chase f start n (pre ++ [last]) o

def left (many : Nat) (row : List Int) : Nat := ((List.range many).filter fun i : Nat => decide ((i : Int) ∉ row)).length
theorem left_le (many : Nat) (row : List Int) : left many row ≤ many := by
  have := List.length_filter_le (fun i : Nat => decide ((i : Int) ∉ row)) (List.range many)
  simpa [left] using this
theorem left_lt {many : Nat} {row : List Int} {o : Int} (h0 : 0 ≤ o) (h1 : o < many) (h : o ∉ row) : left many (row ++ [o]) < left many row := by
  have hmem : o.toNat ∈ List.range many := List.mem_range.mpr (by omega)
  refine filter_lt (y := o.toNat) (fun x _ hq => ?_) hmem ?_ ?_
  · have := of_decide_eq_true hq
    exact decide_eq_true fun hm => this (List.mem_append_left _ hm)
  · exact decide_eq_true (by rw [Int.toNat_of_nonneg h0]; exact h)
  · exact decide_eq_false (by rw [Int.toNat_of_nonneg h0]; simp)

theorem look_of_mem {es : List (Str × Val)} {x : Str} (h : x ∈ es.map (·.1)) : ∃ v, look es x = some v ∧ (x, v) ∈ es := by
  induction es with
  | nil => exact nomatch h
  | cons e es ih =>
    obtain ⟨k, v⟩ := e
    by_cases hk : k = x
    · subst hk; exact ⟨v, by simp [look], .head _⟩
    · have : x ∈ es.map (·.1) := by
        rcases List.mem_cons.mp h with q | q
        · exact absurd q.symm hk
        · exact q
      obtain ⟨v', h1, h2⟩ := ih this
      exact ⟨v', by simp [look, hk, h1], .tail _ h2⟩
theorem dset_new {es : List (Str × Val)} {x : Str} {v : Val} (h : x ∉ es.map (·.1)) : dset es x v = es ++ [(x, v)] := by
  unfold dset
  rw [if_neg]
  intro hc
  obtain ⟨p, hp, e⟩ := List.any_eq_true.mp hc
  exact h (List.mem_map.mpr ⟨p, hp, of_decide_eq_true e⟩)
theorem dset_last {es : List (Str × Val)} {x : Str} {u v : Val} (h : x ∉ es.map (·.1)) : dset (es ++ [(x, u)]) x v = es ++ [(x, v)] := by
  unfold dset
  rw [if_pos (by simp)]
  rw [List.map_append]
  congr 1
  · conv => rhs; rw [← List.map_id es]
    refine List.map_congr_left fun p hp => ?_
    rw [if_neg]; rfl
    intro e
    exact h (List.mem_map.mpr ⟨p, hp, e⟩)
  · simp
theorem look_last {es : List (Str × Val)} {x : Str} {u : Val} (h : x ∉ es.map (·.1)) : look (es ++ [(x, u)]) x = some u := by
  induction es with
  | nil => simp [look]
  | cons e es ih =>
    obtain ⟨k, v⟩ := e
    simp only [List.map_cons, List.mem_cons, not_or] at h
    simp only [List.cons_append, look]
    rw [if_neg (Ne.symm h.1)]
    exact ih h.2

theorem pyGet_nat {α : Type} (vs : List α) (i : Nat) : pyGet vs (i : Int) = vs[i]? := by unfold pyGet; rw [if_pos (by omega)]; simp
theorem pyGet_last {α : Type} (pre : List α) (x : α) : pyGet (pre ++ [x]) (-1) = some x := by
  unfold pyGet
  rw [if_neg (by omega), if_pos (by simp; omega)]
  have : ((((pre ++ [x]).length : Nat) : Int) + -1).toNat = pre.length := by simp; omega
  rw [this]; simp
theorem pyGet_some {α : Type} {vs : List α} {i : Int} (h0 : 0 ≤ i) (h1 : i < vs.length) : ∃ v, pyGet vs i = some v ∧ v ∈ vs := by
  unfold pyGet
  rw [if_pos h0]
  have : i.toNat < vs.length := by omega
  exact ⟨vs[i.toNat], List.getElem?_eq_getElem this, List.getElem_mem this⟩

/-- equal lists of plain values -/
theorem rdAll_flat {μ : Mem} : ∀ (vs : List Val), (∀ v ∈ vs, flatV v = true) → ∃ ds, RdAll μ vs ds ∧ PyData.depthAll ds = 0 ∧ PyData.eqvAll ds ds = true
  | [], _ => ⟨[], .nil, by simp [PyData.depthAll], by simp [PyData.eqvAll]⟩
  | v :: vs, h => by
    obtain ⟨ds, h1, h2, h3⟩ := rdAll_flat vs fun v hv => h v (.tail _ hv)
    have hv := h v (.head _)
    cases v <;> simp only [flatV, Bool.false_eq_true] at hv
    · exact ⟨.none :: ds, .cons .none h1, by simp [PyData.depthAll, PyData.depth, h2], by simp [PyData.eqvAll, PyData.eqv, h3]⟩
    · exact ⟨.int _ :: ds, .cons (.int _) h1, by simp [PyData.depthAll, PyData.depth, h2], by simp [PyData.eqvAll, PyData.eqv, h3]⟩
    · exact ⟨.str _ :: ds, .cons (.str _) h1, by simp [PyData.depthAll, PyData.depth, h2], by simp [PyData.eqvAll, PyData.eqv, h3]⟩
theorem eq_flat {μ : Mem} {a b : Addr} {vs : List Val} {K : Bool → Prop} (ha : μ a = some (.list vs)) (hb : μ b = some (.list vs)) (hf : ∀ v ∈ vs, flatV v = true) (h : K true) : wpEq (.ref a) (.ref b) μ K := by
  obtain ⟨ds, h1, h2, h3⟩ := rdAll_flat (μ := μ) vs hf
  refine .inr ⟨.list ds, .list ds, .list ha h1, .list hb h1, by simp [PyData.depth, h2], by simp [PyData.depth, h2], ?_⟩
  rw [PyData.eqv, h3]; exact h
theorem eq_dict {μ : Mem} {a b : Addr} {es : List (Str × Val)} {K : Bool → Prop} (ha : μ a = some (.sdict es)) (hb : μ b = some (.sdict es)) (hf : ∀ p ∈ es, flatV p.2 = true) (h : K true) : wpEq (.ref a) (.ref b) μ K := .inl ⟨es, ha, hb, hf, h⟩

section
variable {P : Prog}

theorem spec_ring (hR : P.fn (.fn (Str.ofString "ring_from")) = some f_ring_from) {n : Nat} {aw ah : Addr} {vs : List Val} {es : List (Str × Val)} {many : Nat} {names : List Str} {start : Int} {μ : Mem} {Q : VQ} {X : XQ}
    (hw : μ aw = some (.list vs)) (hh : μ ah = some (.sdict es)) (W : WOk many names vs) (H : HOk many names es) (h0 : 0 ≤ start) (h1 : start < many) (hm : many ≤ 1000)
    (h : ∀ a μ', (∀ b x, μ b = some x → μ' b = some x) → μ a = none → μ' a = some (.list ((chase (nxt vs es) start (many + 1) [] start).map .int)) → Q (.ref a) μ') :
    callN P (n + 1) (.fn (Str.ofString "ring_from")) [.ref aw, .ref ah, .int start] μ Q X := by
  refine call_fn hR rfl ?_
  change wpSs P (callN P n) f_ring_from.body [some (.ref aw), some (.ref ah), some (.int start), none, none, none] μ _ _
  unfold f_ring_from
  refine seq_cut (J := fun env' μ' => ∃ a, μ a = none ∧ μ' = upd μ a (.list [.int start]) ∧ env' = [some (.ref aw), some (.ref ah), some (.int start), some (.ref a), none, none]) ?_ ?_
  · intro K j1 j2 j3
    dsimp only [wpSs, wpS, wpE, wpEs, wpT, wpTs, wpB, retVal, List.length_cons, List.length_nil, lg0, lgS, ls0, lsS, Nat.reduceAdd, bin_addI, bin_subI, bin_mulI, bin_fdivI, bin_modI, bin_addS, eq_II, eq_SS, eq_NN, eq_NI, eq_NS, eq_IN, eq_SN, eq_BB, cmp_eq, cmp_ne, cmp_isN, cmp_isnotN, cmp_in, cmp_notin, cmp_lt, cmp_le, cmp_gt, cmp_ge, idx_S, bi_lenS, bi_maxI, bi_minI, isN_N, isN_I, isN_S, isN_R, truth_B, it_range1, it_range2, LM.isL, app_L, Bool.not_false, Bool.not_true]
    exact ⟨by decide, fun a ha => j1 _ _ ⟨a, ha, rfl, rfl⟩⟩
  rintro env' μ' ⟨a, ha, rfl, rfl⟩
  rw [wpSs, wpS]
  refine ⟨fun f env' μ' => ∃ pre last x4 x5, μ' = upd μ a (.list ((pre ++ [last]).map .int)) ∧ env' = [some (.ref aw), some (.ref ah), some (.int start), some (.ref a), x4, x5] ∧ 0 ≤ last ∧ last < many ∧ pre.length ≤ many ∧
      left many (pre ++ [last]) < f ∧ f + pre.length = many + 1 ∧ chase (nxt vs es) start f pre last = chase (nxt vs es) start (many + 1) [] start, ⟨many + 1, [], start, none, none, rfl, rfl, h0, h1, Nat.zero_le _, ?_, rfl, rfl⟩, ?_⟩
  · have := left_le many ([] ++ [start]); omega
  rintro f env' μ' ⟨pre, last, x4, x5, rfl, rfl, q0, q1, q2, q3, q4, q5⟩
  obtain ⟨f, rfl⟩ : ∃ g, f = g + 1 := ⟨f - 1, by omega⟩
  have nw : ∀ (μ' : Mem) b x, upd μ a (.list ((pre ++ [last]).map .int)) = μ' → μ b = some x → μ' b = some x := fun μ' b x e hb => by subst e; exact updO hb ha
  have ret0 : ∀ b, upd μ a (.list ((pre ++ [last]).map .int)) b = none → chase (nxt vs es) start (many + 1) [] start = [] → Q (.ref b) (upd (upd μ a (.list ((pre ++ [last]).map .int))) b (.list [])) := by
    intro b hb he
    have hba : μ b = none := by
      cases q : μ b with
      | none => rfl
      | some x => rw [updO q ha] at hb; cases hb
    refine h b _ (fun c x hc => ?_) hba ?_
    · exact updO (updO hc ha) hb
    · rw [he]; exact updS _ _ _
  obtain ⟨v, hv, hvm⟩ := pyGet_some (vs := vs) q0 (by rw [W.1]; exact q1)
  have hlast : pyGet ((pre ++ [last]).map Val.int) (-1) = some (.int last) := by rw [List.map_append]; exact pyGet_last _ _
  dsimp only [wpSs, wpS, wpE, wpEs, wpT, wpTs, wpB, retVal, List.length_cons, List.length_nil, lg0, lgS, ls0, lsS, Nat.reduceAdd, bin_addI, bin_subI, bin_mulI, bin_fdivI, bin_modI, bin_addS, eq_II, eq_SS, eq_NN, eq_NI, eq_NS, eq_IN, eq_SN, eq_BB, cmp_eq, cmp_ne, cmp_isN, cmp_isnotN, cmp_in, cmp_notin, cmp_lt, cmp_le, cmp_gt, cmp_ge, idx_S, bi_lenS, bi_maxI, bi_minI, isN_N, isN_I, isN_S, isN_R, truth_B, it_range1, it_range2, LM.isL, app_L, Bool.not_false, Bool.not_true]
  rw [idx_L (updS _ _ _)]
  refine ⟨_, hlast, ?_⟩
  rw [idx_L (updO hw ha)]
  refine ⟨v, hv, ?_⟩
  rcases W.2 v hvm with rfl | ⟨x, hx, rfl⟩
  · dsimp only [wpSs, wpS, wpE, wpEs, wpT, wpTs, wpB, retVal, List.length_cons, List.length_nil, lg0, lgS, ls0, lsS, Nat.reduceAdd, bin_addI, bin_subI, bin_mulI, bin_fdivI, bin_modI, bin_addS, eq_II, eq_SS, eq_NN, eq_NI, eq_NS, eq_IN, eq_SN, eq_BB, cmp_eq, cmp_ne, cmp_isN, cmp_isnotN, cmp_in, cmp_notin, cmp_lt, cmp_le, cmp_gt, cmp_ge, idx_S, bi_lenS, bi_maxI, bi_minI, isN_N, isN_I, isN_S, isN_R, truth_B, it_range1, it_range2, LM.isL, app_L, Bool.not_false, Bool.not_true]
    refine ⟨by decide, fun b hb => ret0 b hb ?_⟩
    rw [← q5]; simp [chase, nxt, hv]
  · dsimp only [wpSs, wpS, wpE, wpEs, wpT, wpTs, wpB, retVal, List.length_cons, List.length_nil, lg0, lgS, ls0, lsS, Nat.reduceAdd, bin_addI, bin_subI, bin_mulI, bin_fdivI, bin_modI, bin_addS, eq_II, eq_SS, eq_NN, eq_NI, eq_NS, eq_IN, eq_SN, eq_BB, cmp_eq, cmp_ne, cmp_isN, cmp_isnotN, cmp_in, cmp_notin, cmp_lt, cmp_le, cmp_gt, cmp_ge, idx_S, bi_lenS, bi_maxI, bi_minI, isN_N, isN_I, isN_S, isN_R, truth_B, it_range1, it_range2, LM.isL, app_L, Bool.not_false, Bool.not_true]
    rw [idx_D (updO hh ha)]
    obtain ⟨u, hu, hum⟩ := look_of_mem (es := es) (x := x) (by rw [H.1]; exact hx)
    refine ⟨u, hu, ?_⟩
    rcases H.2 _ hum with hn | ⟨j, j0, j1, hj⟩
    · simp only at hn
      subst hn
      dsimp only [wpSs, wpS, wpE, wpEs, wpT, wpTs, wpB, retVal, List.length_cons, List.length_nil, lg0, lgS, ls0, lsS, Nat.reduceAdd, bin_addI, bin_subI, bin_mulI, bin_fdivI, bin_modI, bin_addS, eq_II, eq_SS, eq_NN, eq_NI, eq_NS, eq_IN, eq_SN, eq_BB, cmp_eq, cmp_ne, cmp_isN, cmp_isnotN, cmp_in, cmp_notin, cmp_lt, cmp_le, cmp_gt, cmp_ge, idx_S, bi_lenS, bi_maxI, bi_minI, isN_N, isN_I, isN_S, isN_R, truth_B, it_range1, it_range2, LM.isL, app_L, Bool.not_false, Bool.not_true]
      refine ⟨by decide, fun b hb => ret0 b hb ?_⟩
      rw [← q5]; simp [chase, nxt, hv, hu]
    · simp only at hj
      subst hj
      have hnx : nxt vs es last = some j := by simp [nxt, hv, hu]
      dsimp only [wpSs, wpS, wpE, wpEs, wpT, wpTs, wpB, retVal, List.length_cons, List.length_nil, lg0, lgS, ls0, lsS, Nat.reduceAdd, bin_addI, bin_subI, bin_mulI, bin_fdivI, bin_modI, bin_addS, eq_II, eq_SS, eq_NN, eq_NI, eq_NS, eq_IN, eq_SN, eq_BB, cmp_eq, cmp_ne, cmp_isN, cmp_isnotN, cmp_in, cmp_notin, cmp_lt, cmp_le, cmp_gt, cmp_ge, idx_S, bi_lenS, bi_maxI, bi_minI, isN_N, isN_I, isN_S, isN_R, truth_B, it_range1, it_range2, LM.isL, app_L, Bool.not_false, Bool.not_true]
      split
      · rename_i e
        have e : j = start := by simpa using e
        refine h a _ (fun b x hb => updO hb ha) ha ?_
        rw [updS, ← q5]
        simp [chase, hnx, e]
      · rename_i e
        have e : j ≠ start := by simpa using e
        refine in_ints (updS _ _ _) ?_
        split
        · rename_i hin
          have hin := of_decide_eq_true hin
          refine ⟨by decide, fun b hb => ret0 b hb ?_⟩
          rw [← q5]; simp only [chase, hnx, if_neg e, if_pos hin]
        · rename_i hin
          have hin := of_decide_eq_false hin
          rw [updS]
          dsimp only [wpSs, wpS, wpE, wpEs, wpT, wpTs, wpB, retVal, List.length_cons, List.length_nil, lg0, lgS, ls0, lsS, Nat.reduceAdd, bin_addI, bin_subI, bin_mulI, bin_fdivI, bin_modI, bin_addS, eq_II, eq_SS, eq_NN, eq_NI, eq_NS, eq_IN, eq_SN, eq_BB, cmp_eq, cmp_ne, cmp_isN, cmp_isnotN, cmp_in, cmp_notin, cmp_lt, cmp_le, cmp_gt, cmp_ge, idx_S, bi_lenS, bi_maxI, bi_minI, isN_N, isN_I, isN_S, isN_R, truth_B, it_range1, it_range2, LM.isL, app_L, Bool.not_false, Bool.not_true]
          have hl := left_lt j0 j1 hin
          refine ⟨rfl, by simp; unfold szl; omega, f, by omega, pre ++ [last], j, _, _, ?_, rfl, j0, j1, ?_, by omega, by simp; omega, ?_⟩
          · rw [upd_upd]; simp
          · simp; omega
          · rw [← q5]; simp only [chase, hnx, if_neg e, if_neg hin]

theorem spec_due (hR : P.fn (.fn (Str.ofString "_law_due")) = some f__law_due) {n : Nat} {aw ah : Addr} {vs : List Val} {es : List (Str × Val)} {many : Nat} {names : List Str} {start : Int} {μ : Mem} {Q : VQ} {X : XQ}
    (hw : μ aw = some (.list vs)) (hh : μ ah = some (.sdict es)) (W : WOk many names vs) (H : HOk many names es) (h0 : 0 ≤ start) (h1 : start < many) (hm : many ≤ 1000)
    (h : ∀ a μ', (∀ b x, μ b = some x → μ' b = some x) → μ a = none → μ' a = some (.list ((chase (nxt vs es) start (many + 1) [] start).map .int)) → Q (.ref a) μ') :
    callN P (n + 1) (.fn (Str.ofString "_law_due")) [.ref aw, .ref ah, .int start] μ Q X := by
  refine call_fn hR rfl ?_
  change wpSs P (callN P n) f__law_due.body [some (.ref aw), some (.ref ah), some (.int start), none, none, none] μ _ _
  unfold f__law_due
  refine seq_cut (J := fun env' μ' => ∃ a, μ a = none ∧ μ' = upd μ a (.list []) ∧ env' = [some (.ref aw), some (.ref ah), some (.int start), some (.ref a), none, none]) ?_ ?_
  · intro K j1 j2 j3
    dsimp only [wpSs, wpS, wpE, wpEs, wpT, wpTs, wpB, retVal, List.length_cons, List.length_nil, lg0, lgS, ls0, lsS, Nat.reduceAdd, bin_addI, bin_subI, bin_mulI, bin_fdivI, bin_modI, bin_addS, eq_II, eq_SS, eq_NN, eq_NI, eq_NS, eq_IN, eq_SN, eq_BB, cmp_eq, cmp_ne, cmp_isN, cmp_isnotN, cmp_in, cmp_notin, cmp_lt, cmp_le, cmp_gt, cmp_ge, idx_S, bi_lenS, bi_maxI, bi_minI, isN_N, isN_I, isN_S, isN_R, truth_B, it_range1, it_range2, LM.isL, app_L, Bool.not_false, Bool.not_true]
    exact ⟨by decide, fun a ha => j1 _ _ ⟨a, ha, rfl, rfl⟩⟩
  rintro env' μ' ⟨a, ha, rfl, rfl⟩
  refine seq_cut (J := fun env' μ' => μ' = upd μ a (.list []) ∧ env' = [some (.ref aw), some (.ref ah), some (.int start), some (.ref a), some (.int start), none]) ?_ ?_
  · intro K j1 j2 j3
    dsimp only [wpSs, wpS, wpE, wpEs, wpT, wpTs, wpB, retVal, List.length_cons, List.length_nil, lg0, lgS, ls0, lsS, Nat.reduceAdd, bin_addI, bin_subI, bin_mulI, bin_fdivI, bin_modI, bin_addS, eq_II, eq_SS, eq_NN, eq_NI, eq_NS, eq_IN, eq_SN, eq_BB, cmp_eq, cmp_ne, cmp_isN, cmp_isnotN, cmp_in, cmp_notin, cmp_lt, cmp_le, cmp_gt, cmp_ge, idx_S, bi_lenS, bi_maxI, bi_minI, isN_N, isN_I, isN_S, isN_R, truth_B, it_range1, it_range2, LM.isL, app_L, Bool.not_false, Bool.not_true]
    exact j1 _ _ ⟨rfl, rfl⟩
  rintro env' μ' ⟨rfl, rfl⟩
  have stepV : ∀ here : Int, 0 ≤ here → here < many → ∃ v, pyGet vs here = some v ∧ (v = .none ∨ ∃ x u, v = .str x ∧ look es x = some u ∧ (u = .none ∨ ∃ j : Int, 0 ≤ j ∧ j < many ∧ u = .int j)) := by
    intro here g0 g1
    obtain ⟨v, hv, hvm⟩ := pyGet_some (vs := vs) g0 (by rw [W.1]; exact g1)
    refine ⟨v, hv, ?_⟩
    rcases W.2 v hvm with e | ⟨x, hx, e⟩
    · exact .inl e
    · obtain ⟨u, hu, hum⟩ := look_of_mem (es := es) (x := x) (by rw [H.1]; exact hx)
      exact .inr ⟨x, u, e, hu, H.2 _ hum⟩
  let R := chase (nxt vs es) start (many + 1) [] start
  refine seq_cut (J := fun env' μ' => ∃ row hv x5, μ' = upd μ a (.list (row.map .int)) ∧ env' = [some (.ref aw), some (.ref ah), some (.int start), some (.ref a), some hv, x5] ∧ ((hv = .none ∧ R = []) ∨ ∃ o : Int, hv = .int o ∧ ((o = start ∧ R = row) ∨ (o ≠ start ∧ R = [])))) ?_ ?_
  · intro K k1 k2 k3
    rw [wpS]
    refine ⟨fun f env' μ' => ∃ row hv x5, μ' = upd μ a (.list (row.map .int)) ∧ env' = [some (.ref aw), some (.ref ah), some (.int start), some (.ref a), some hv, x5] ∧ row.length ≤ many + 1 ∧
        ((row = [] ∧ hv = .int start ∧ f = many + 2) ∨ ∃ pre last, row = pre ++ [last] ∧ start ∈ row ∧ left many row < f ∧ f + pre.length = many + 1 ∧ chase (nxt vs es) start f pre last = R ∧ ((hv = .none ∧ nxt vs es last = none) ∨ ∃ o : Int, hv = .int o ∧ 0 ≤ o ∧ o < many ∧ nxt vs es last = some o)),
      ⟨many + 2, [], .int start, none, rfl, rfl, Nat.zero_le _, .inl ⟨rfl, rfl, rfl⟩⟩, ?_⟩
    rintro f env' μ' ⟨row, hv, x5, rfl, rfl, hrl, hc⟩
    -- one more turn, from here
    have turn : ∀ here : Int, 0 ≤ here → here < many → ∀ x5, row.length ≤ many → start ∈ row ++ [here] → (f = f - 1 + 1 ∧ left many (row ++ [here]) < f - 1 ∧ f - 1 + row.length = many + 1 ∧ chase (nxt vs es) start (f - 1) row here = R) →
        wpSs P (callN P n) [.expr (.meth (.var 3) (Str.ofString "append") .append [(.var 4)]), .asg 5 (.idx (.var 0) (.var 4)), .asg 4 (.lit .none), .ite (.cmp .isnot (.var 5) (.lit .none)) [.asg 4 (.idx (.var 1) (.var 5))] []]
          [some (.ref aw), some (.ref ah), some (.int start), some (.ref a), some (.int here), x5] (upd μ a (.list (row.map .int)))
          (fun fl env' μ'' => match fl with
            | .next => ∃ m, m < f ∧ ∃ row hv x5, μ'' = upd μ a (.list (row.map .int)) ∧ env' = [some (.ref aw), some (.ref ah), some (.int start), some (.ref a), some hv, x5] ∧ row.length ≤ many + 1 ∧
        ((row = [] ∧ hv = .int start ∧ m = many + 2) ∨ ∃ pre last, row = pre ++ [last] ∧ start ∈ row ∧ left many row < m ∧ m + pre.length = many + 1 ∧ chase (nxt vs es) start m pre last = R ∧ ((hv = .none ∧ nxt vs es last = none) ∨ ∃ o : Int, hv = .int o ∧ 0 ≤ o ∧ o < many ∧ nxt vs es last = some o))
            | .cont => ∃ m, m < f ∧ ∃ row hv x5, μ'' = upd μ a (.list (row.map .int)) ∧ env' = [some (.ref aw), some (.ref ah), some (.int start), some (.ref a), some hv, x5] ∧ row.length ≤ many + 1 ∧
        ((row = [] ∧ hv = .int start ∧ m = many + 2) ∨ ∃ pre last, row = pre ++ [last] ∧ start ∈ row ∧ left many row < m ∧ m + pre.length = many + 1 ∧ chase (nxt vs es) start m pre last = R ∧ ((hv = .none ∧ nxt vs es last = none) ∨ ∃ o : Int, hv = .int o ∧ 0 ≤ o ∧ o < many ∧ nxt vs es last = some o))
            | .brk => K .next env' μ''
            | .ret r => K (.ret r) env' μ'') (fun c _ μ' => X c μ') := by
      rintro here p0 p1 x5 gl gs ⟨gf, gl1, gl2, gl3⟩
      obtain ⟨v, hv, hc⟩ := stepV here p0 p1
      dsimp only [wpSs, wpS, wpE, wpEs, wpT, wpTs, wpB, retVal, List.length_cons, List.length_nil, lg0, lgS, ls0, lsS, Nat.reduceAdd, bin_addI, bin_subI, bin_mulI, bin_fdivI, bin_modI, bin_addS, eq_II, eq_SS, eq_NN, eq_NI, eq_NS, eq_IN, eq_SN, eq_BB, cmp_eq, cmp_ne, cmp_isN, cmp_isnotN, cmp_in, cmp_notin, cmp_lt, cmp_le, cmp_gt, cmp_ge, idx_S, bi_lenS, bi_maxI, bi_minI, isN_N, isN_I, isN_S, isN_R, truth_B, it_range1, it_range2, LM.isL, app_L, Bool.not_false, Bool.not_true]
      rw [updS]
      dsimp only [wpSs, wpS, wpE, wpEs, wpT, wpTs, wpB, retVal, List.length_cons, List.length_nil, lg0, lgS, ls0, lsS, Nat.reduceAdd, bin_addI, bin_subI, bin_mulI, bin_fdivI, bin_modI, bin_addS, eq_II, eq_SS, eq_NN, eq_NI, eq_NS, eq_IN, eq_SN, eq_BB, cmp_eq, cmp_ne, cmp_isN, cmp_isnotN, cmp_in, cmp_notin, cmp_lt, cmp_le, cmp_gt, cmp_ge, idx_S, bi_lenS, bi_maxI, bi_minI, isN_N, isN_I, isN_S, isN_R, truth_B, it_range1, it_range2, LM.isL, app_L, Bool.not_false, Bool.not_true]
      rw [upd_upd]
      have e : row.map Val.int ++ [.int here] = (row ++ [here]).map .int := by simp
      rw [e]
      refine ⟨rfl, by simp; unfold szl; omega, ?_⟩
      rw [idx_L (updO hw ha)]
      refine ⟨v, hv, ?_⟩
      rcases hc with rfl | ⟨x, u, rfl, hu, hc⟩
      · dsimp only [wpSs, wpS, wpE, wpEs, wpT, wpTs, wpB, retVal, List.length_cons, List.length_nil, lg0, lgS, ls0, lsS, Nat.reduceAdd, bin_addI, bin_subI, bin_mulI, bin_fdivI, bin_modI, bin_addS, eq_II, eq_SS, eq_NN, eq_NI, eq_NS, eq_IN, eq_SN, eq_BB, cmp_eq, cmp_ne, cmp_isN, cmp_isnotN, cmp_in, cmp_notin, cmp_lt, cmp_le, cmp_gt, cmp_ge, idx_S, bi_lenS, bi_maxI, bi_minI, isN_N, isN_I, isN_S, isN_R, truth_B, it_range1, it_range2, LM.isL, app_L, Bool.not_false, Bool.not_true]
        exact ⟨f - 1, by omega, row ++ [here], .none, _, rfl, rfl, by simp; omega, .inr ⟨row, here, rfl, gs, gl1, gl2, gl3, .inl ⟨rfl, by simp [nxt, hv]⟩⟩⟩
      · dsimp only [wpSs, wpS, wpE, wpEs, wpT, wpTs, wpB, retVal, List.length_cons, List.length_nil, lg0, lgS, ls0, lsS, Nat.reduceAdd, bin_addI, bin_subI, bin_mulI, bin_fdivI, bin_modI, bin_addS, eq_II, eq_SS, eq_NN, eq_NI, eq_NS, eq_IN, eq_SN, eq_BB, cmp_eq, cmp_ne, cmp_isN, cmp_isnotN, cmp_in, cmp_notin, cmp_lt, cmp_le, cmp_gt, cmp_ge, idx_S, bi_lenS, bi_maxI, bi_minI, isN_N, isN_I, isN_S, isN_R, truth_B, it_range1, it_range2, LM.isL, app_L, Bool.not_false, Bool.not_true]
        rw [idx_D (updO hh ha)]
        refine ⟨u, hu, ?_⟩
        refine ⟨f - 1, by omega, row ++ [here], u, _, rfl, rfl, by simp; omega, .inr ⟨row, here, rfl, gs, gl1, gl2, gl3, ?_⟩⟩
        rcases hc with rfl | ⟨j, j0, j1, rfl⟩
        · exact .inl ⟨rfl, by simp [nxt, hv, hu]⟩
        · exact .inr ⟨j, rfl, j0, j1, by simp [nxt, hv, hu]⟩
    rcases hc with ⟨rfl, rfl, rfl⟩ | ⟨pre, last, rfl, cs, c1, c2, c3, c4⟩
    · simp only [wpT, wpTs, wpE, List.getElem?_cons_zero, List.getElem?_cons_succ, cmp_isnotN, isN_I, Bool.not_false, if_true, cmp_notin]
      refine in_ints (updS _ _ _) ?_
      simp only [List.not_mem_nil, decide_false, Bool.not_false, if_true]
      refine turn start h0 h1 x5 (by simp) (by simp) ⟨by omega, ?_, by simp, rfl⟩
      have := left_le many ([] ++ [start]); omega
    · rcases c4 with ⟨rfl, c4⟩ | ⟨o, rfl, o0, o1, c4⟩
      · simp only [wpT, wpTs, wpE, List.getElem?_cons_zero, List.getElem?_cons_succ, cmp_isnotN, isN_N, Bool.not_true, Bool.false_eq_true, if_false]
        refine k1 _ _ ⟨_, _, _, rfl, rfl, .inl ⟨rfl, ?_⟩⟩
        obtain ⟨g, rfl⟩ : ∃ g, f = g + 1 := ⟨f - 1, by omega⟩
        rw [← c3]; simp [chase, c4]
      · obtain ⟨g, rfl⟩ : ∃ g, f = g + 1 := ⟨f - 1, by omega⟩
        simp only [wpT, wpTs, wpE, List.getElem?_cons_zero, List.getElem?_cons_succ, cmp_isnotN, isN_I, Bool.not_false, if_true, cmp_notin]
        refine in_ints (updS _ _ _) ?_
        by_cases hin : o ∈ pre ++ [last]
        · simp only [hin, decide_true, Bool.not_true, Bool.false_eq_true, if_false]
          refine k1 _ _ ⟨_, _, _, rfl, rfl, .inr ⟨o, rfl, ?_⟩⟩
          by_cases e : o = start
          · exact .inl ⟨e, by rw [← c3]; simp only [chase, c4, if_pos e]⟩
          · exact .inr ⟨e, by rw [← c3]; simp only [chase, c4, if_neg e, if_pos hin]⟩
        · simp only [hin, decide_false, Bool.not_false, if_true]
          have e : o ≠ start := fun e => hin (e ▸ cs)
          have hl := left_lt o0 o1 hin
          refine turn o o0 o1 x5 (by simp; omega) (List.mem_append_left _ cs) ⟨by omega, by omega, by simp; omega, ?_⟩
          rw [← c3]; simp only [chase, c4, if_neg e, if_neg hin, Nat.add_sub_cancel]
  · rintro env' μ' ⟨row, hv, x5, rfl, rfl, hc⟩
    have ret0 : R = [] → ∀ b, upd μ a (.list (row.map .int)) b = none → Q (.ref b) (upd (upd μ a (.list (row.map .int))) b (.list [])) := by
      intro he b hb
      have hba : μ b = none := by
        cases q : μ b with
        | none => rfl
        | some x => rw [updO q ha] at hb; cases hb
      refine h b _ (fun c x hc => ?_) hba ?_
      · exact updO (updO hc ha) hb
      · show _ = some (MObj.list (R.map Val.int))
        rw [he]; exact updS _ _ _
    rcases hc with ⟨rfl, hr⟩ | ⟨o, rfl, ⟨e, hr⟩ | ⟨e, hr⟩⟩
    · dsimp only [wpSs, wpS, wpE, wpEs, wpT, wpTs, wpB, retVal, List.length_cons, List.length_nil, lg0, lgS, ls0, lsS, Nat.reduceAdd, bin_addI, bin_subI, bin_mulI, bin_fdivI, bin_modI, bin_addS, eq_II, eq_SS, eq_NN, eq_NI, eq_NS, eq_IN, eq_SN, eq_BB, cmp_eq, cmp_ne, cmp_isN, cmp_isnotN, cmp_in, cmp_notin, cmp_lt, cmp_le, cmp_gt, cmp_ge, idx_S, bi_lenS, bi_maxI, bi_minI, isN_N, isN_I, isN_S, isN_R, truth_B, it_range1, it_range2, LM.isL, app_L, Bool.not_false, Bool.not_true]
      exact ⟨by decide, fun b hb => ret0 hr b hb⟩
    · subst e
      dsimp only [wpSs, wpS, wpE, wpEs, wpT, wpTs, wpB, retVal, List.length_cons, List.length_nil, lg0, lgS, ls0, lsS, Nat.reduceAdd, bin_addI, bin_subI, bin_mulI, bin_fdivI, bin_modI, bin_addS, eq_II, eq_SS, eq_NN, eq_NI, eq_NS, eq_IN, eq_SN, eq_BB, cmp_eq, cmp_ne, cmp_isN, cmp_isnotN, cmp_in, cmp_notin, cmp_lt, cmp_le, cmp_gt, cmp_ge, idx_S, bi_lenS, bi_maxI, bi_minI, isN_N, isN_I, isN_S, isN_R, truth_B, it_range1, it_range2, LM.isL, app_L, Bool.not_false, Bool.not_true]
      rw [beq_self_eq_true]
      refine h a _ (fun b x hb => updO hb ha) ha ?_
      show _ = some (MObj.list (R.map Val.int))
      rw [hr]; exact updS _ _ _
    · have e' : (o == start) = false := by simpa using e
      dsimp only [wpSs, wpS, wpE, wpEs, wpT, wpTs, wpB, retVal, List.length_cons, List.length_nil, lg0, lgS, ls0, lsS, Nat.reduceAdd, bin_addI, bin_subI, bin_mulI, bin_fdivI, bin_modI, bin_addS, eq_II, eq_SS, eq_NN, eq_NI, eq_NS, eq_IN, eq_SN, eq_BB, cmp_eq, cmp_ne, cmp_isN, cmp_isnotN, cmp_in, cmp_notin, cmp_lt, cmp_le, cmp_gt, cmp_ge, idx_S, bi_lenS, bi_maxI, bi_minI, isN_N, isN_I, isN_S, isN_R, truth_B, it_range1, it_range2, LM.isL, app_L, Bool.not_false, Bool.not_true]
      rw [e']
      exact ⟨by decide, fun b hb => ret0 hr b hb⟩

theorem spec_whole (hR : P.fn (.fn (Str.ofString "_law_whole")) = some f__law_whole) {n : Nat} {i : Int} {μ : Mem} {Q : VQ} {X : XQ} (h : Q (.bool true) μ) : callN P (n + 1) (.fn (Str.ofString "_law_whole")) [.int i] μ Q X := by
  refine call_fn hR rfl ?_
  dsimp only [f__law_whole, wpSs, wpS, wpE, wpEs, wpT, wpTs, wpB, retVal, List.length_cons, List.length_nil, lg0, lgS, ls0, lsS, Nat.reduceAdd, bin_addI, bin_subI, bin_mulI, bin_fdivI, bin_modI, bin_addS, eq_II, eq_SS, eq_NN, eq_NI, eq_NS, eq_IN, eq_SN, eq_BB, cmp_eq, cmp_ne, cmp_isN, cmp_isnotN, cmp_in, cmp_notin, cmp_lt, cmp_le, cmp_gt, cmp_ge, idx_S, bi_lenS, bi_maxI, bi_minI, isN_N, isN_I, isN_S, isN_R, truth_B, it_range1, it_range2, LM.isL, app_L, Bool.not_false, Bool.not_true, isT, if_true]
  exact h

theorem spec_held (hP : Com P) (hR : P.fn (.fn (Str.ofString "_law_held")) = some f__law_held) {n : Nat} {an : Addr} {names : List Str} {many : Nat} {cell : Int} {about : Bool} {μ : Mem} {Q : VQ} {X : XQ}
    (hn : μ an = some (.list (names.map .str))) (hnd : names.Nodup) (hl : names.length ≤ 1000) (hm : many ≤ 1000) (hab : about = true → names.length ≤ many)
    (h : ∀ a es, HOk many names es → μ a = none → Q (.ref a) (upd μ a (.sdict es))) :
    callN P (n + 2) (.fn (Str.ofString "_law_held")) [.ref an, .int many, .int cell, .bool about] μ Q X := by
  refine call_fn hR rfl ?_
  change wpSs P (callN P (n + 1)) f__law_held.body [some (.ref an), some (.int many), some (.int cell), some (.bool about), none, none] μ _ _
  unfold f__law_held
  refine seq_cut (J := fun env' μ' => ∃ a, μ a = none ∧ μ' = upd μ a (.sdict []) ∧ env' = [some (.ref an), some (.int many), some (.int cell), some (.bool about), some (.ref a), none]) ?_ ?_
  · intro K j1 j2 j3
    dsimp only [wpSs, wpS, wpE, wpEs, wpT, wpTs, wpB, retVal, List.length_cons, List.length_nil, lg0, lgS, ls0, lsS, Nat.reduceAdd, bin_addI, bin_subI, bin_mulI, bin_fdivI, bin_modI, bin_addS, eq_II, eq_SS, eq_NN, eq_NI, eq_NS, eq_IN, eq_SN, eq_BB, cmp_eq, cmp_ne, cmp_isN, cmp_isnotN, cmp_in, cmp_notin, cmp_lt, cmp_le, cmp_gt, cmp_ge, idx_S, bi_lenS, bi_maxI, bi_minI, isN_N, isN_I, isN_S, isN_R, truth_B, it_range1, it_range2, LM.isL, app_L, Bool.not_false, Bool.not_true, pairUp, List.foldl_nil]
    exact ⟨by decide, fun a ha => j1 _ _ ⟨a, ha, rfl, rfl⟩⟩
  rintro env' μ' ⟨a, ha, rfl, rfl⟩
  rw [wpSs, wpS]
  simp only [wpE, wpEs, List.getElem?_cons_zero, List.getElem?_cons_succ, len_L (updO hn ha), it_range1, List.length_map]
  refine ⟨by omega, ?_⟩
  refine forLoop_inv (fun i env μ' => ∃ (es : List (Str × Val)) (x5 : Option Val), μ' = upd μ a (.sdict es) ∧ env = [some (.ref an), some (.int many), some (.int cell), some (.bool about), some (.ref a), x5] ∧ HOk many (names.take i) es)
    ⟨[], none, rfl, rfl, by simp [HOk]⟩ trivial ?_ ?_
  · rintro i v env μ' K hv ⟨es, x5, rfl, rfl, hH⟩ _ k1 k2 k3
    obtain ⟨rfl, hi⟩ := rangeL_get hv
    have hi' : i < names.length := by omega
    have hx : pyGet (names.map Val.str) (i : Int) = some (.str names[i]) := by rw [pyGet_nat, List.getElem?_map, List.getElem?_eq_getElem hi']; rfl
    have hlen : es.length = i := by
      have := congrArg List.length hH.1
      simp at this; omega
    have hnew : names[i] ∉ es.map (·.1) := by
      rw [hH.1]
      intro hm
      obtain ⟨j, hj, e⟩ := List.getElem_of_mem hm
      rw [List.getElem_take] at e
      have hj' : j < i := by simp at hj; omega
      exact List.pairwise_iff_getElem.mp hnd j i (by omega) hi' hj' e
    have htake : names.take (i + 1) = names.take i ++ [names[i]] := by rw [List.take_add_one, List.getElem?_eq_getElem hi']; rfl
    have hok : ∀ u, (u = Val.none ∨ ∃ j : Int, 0 ≤ j ∧ j < many ∧ u = .int j) → HOk many (names.take (i + 1)) (es ++ [(names[i], u)]) := by
      intro u hu
      refine ⟨by rw [List.map_append, hH.1, htake]; rfl, fun p hp => ?_⟩
      rcases List.mem_append.mp hp with q | q
      · exact hH.2 p q
      · rw [List.mem_singleton] at q; subst q; exact hu
    simp only [bindT, List.set_cons_zero, List.set_cons_succ, Int.zero_add]
    generalize hxn : names[i] = x at *
    have hmm := mod_pos (b := (many : Int) + 1) (by omega) (mixedF cell i)
    refine seq_cut (J := fun env' μ' => ∃ m : Int, 0 ≤ m ∧ m ≤ many ∧ μ' = upd μ a (.sdict (es ++ [(x, .int m)])) ∧ env' = [some (.ref an), some (.int many), some (.int cell), some (.bool about), some (.ref a), some (.int (i : Int))]) ?_ ?_
    · intro K' j1 j2 j3
      dsimp only [wpSs, wpS, wpE, wpEs, wpT, wpTs, wpB, retVal, List.length_cons, List.length_nil, lg0, lgS, ls0, lsS, Nat.reduceAdd, bin_addI, bin_subI, bin_mulI, bin_fdivI, bin_modI, bin_addS, eq_II, eq_SS, eq_NN, eq_NI, eq_NS, eq_IN, eq_SN, eq_BB, cmp_eq, cmp_ne, cmp_isN, cmp_isnotN, cmp_in, cmp_notin, cmp_lt, cmp_le, cmp_gt, cmp_ge, idx_S, bi_lenS, bi_maxI, bi_minI, isN_N, isN_I, isN_S, isN_R, truth_B, it_range1, it_range2, LM.isL, app_L, Bool.not_false, Bool.not_true]
      refine spec_mixed hP ?_ ?_
      · omega
      refine ⟨by omega, ?_⟩
      show wpIdx _ _ _ _
      rw [idx_L (updO hn ha)]
      refine ⟨_, hx, ?_⟩
      rw [set_D (updS _ _ _), upd_upd, dset_new hnew]
      exact ⟨by unfold szl; omega, j1 _ _ ⟨_, hmm.1, by omega, rfl, rfl⟩⟩
    rintro env' μ' ⟨m, m0, m1, rfl, rfl⟩
    refine seq_cut (J := fun env' μ' => ∃ u, (u = Val.none ∨ ∃ j : Int, 0 ≤ j ∧ j < many ∧ u = .int j) ∧ μ' = upd μ a (.sdict (es ++ [(x, u)])) ∧ env' = [some (.ref an), some (.int many), some (.int cell), some (.bool about), some (.ref a), some (.int (i : Int))]) ?_ ?_
    · intro K' j1 j2 j3
      dsimp only [wpSs, wpS, wpE, wpEs, wpT, wpTs, wpB, retVal, List.length_cons, List.length_nil, lg0, lgS, ls0, lsS, Nat.reduceAdd, bin_addI, bin_subI, bin_mulI, bin_fdivI, bin_modI, bin_addS, eq_II, eq_SS, eq_NN, eq_NI, eq_NS, eq_IN, eq_SN, eq_BB, cmp_eq, cmp_ne, cmp_isN, cmp_isnotN, cmp_in, cmp_notin, cmp_lt, cmp_le, cmp_gt, cmp_ge, idx_S, bi_lenS, bi_maxI, bi_minI, isN_N, isN_I, isN_S, isN_R, truth_B, it_range1, it_range2, LM.isL, app_L, Bool.not_false, Bool.not_true]
      rw [idx_L (updO hn ha)]
      refine ⟨_, hx, ?_⟩
      rw [idx_D (updS _ _ _)]
      refine ⟨_, look_last hnew, ?_⟩
      dsimp only [wpSs, wpS, wpE, wpEs, wpT, wpTs, wpB, retVal, List.length_cons, List.length_nil, lg0, lgS, ls0, lsS, Nat.reduceAdd, bin_addI, bin_subI, bin_mulI, bin_fdivI, bin_modI, bin_addS, eq_II, eq_SS, eq_NN, eq_NI, eq_NS, eq_IN, eq_SN, eq_BB, cmp_eq, cmp_ne, cmp_isN, cmp_isnotN, cmp_in, cmp_notin, cmp_lt, cmp_le, cmp_gt, cmp_ge, idx_S, bi_lenS, bi_maxI, bi_minI, isN_N, isN_I, isN_S, isN_R, truth_B, it_range1, it_range2, LM.isL, app_L, Bool.not_false, Bool.not_true]
      split
      · rw [idx_L (updO hn ha)]
        refine ⟨_, hx, ?_⟩
        rw [set_D (updS _ _ _), upd_upd, dset_last hnew]
        exact ⟨by simp; unfold szl; omega, j1 _ _ ⟨_, .inl rfl, rfl, rfl⟩⟩
      · rename_i e
        have e : m ≠ many := by simpa using e
        exact j1 _ _ ⟨_, .inr ⟨m, m0, by omega, rfl⟩, rfl, rfl⟩
    rintro env' μ' ⟨u, hu, rfl, rfl⟩
    dsimp only [wpSs, wpS, wpE, wpEs, wpT, wpTs, wpB, retVal, List.length_cons, List.length_nil, lg0, lgS, ls0, lsS, Nat.reduceAdd, bin_addI, bin_subI, bin_mulI, bin_fdivI, bin_modI, bin_addS, eq_II, eq_SS, eq_NN, eq_NI, eq_NS, eq_IN, eq_SN, eq_BB, cmp_eq, cmp_ne, cmp_isN, cmp_isnotN, cmp_in, cmp_notin, cmp_lt, cmp_le, cmp_gt, cmp_ge, idx_S, bi_lenS, bi_maxI, bi_minI, isN_N, isN_I, isN_S, isN_R, truth_B, it_range1, it_range2, LM.isL, app_L, Bool.not_false, Bool.not_true]
    cases about with
    | true =>
      simp only
      rw [idx_L (updO hn ha)]
      refine ⟨_, hx, ?_⟩
      rw [set_D (updS _ _ _), upd_upd, dset_last hnew]
      refine ⟨by simp; unfold szl; omega, k1 _ _ ⟨_, _, rfl, rfl, hok _ (.inr ⟨i, by omega, ?_, rfl⟩)⟩ trivial⟩
      have := hab rfl; omega
    | false => exact k1 _ _ ⟨_, _, rfl, rfl, hok _ hu⟩ trivial
  · rintro env μ' ⟨es, x5, rfl, rfl, hH⟩ _
    dsimp only [wpSs, wpS, wpE, wpEs, wpT, wpTs, wpB, retVal, List.length_cons, List.length_nil, lg0, lgS, ls0, lsS, Nat.reduceAdd, bin_addI, bin_subI, bin_mulI, bin_fdivI, bin_modI, bin_addS, eq_II, eq_SS, eq_NN, eq_NI, eq_NS, eq_IN, eq_SN, eq_BB, cmp_eq, cmp_ne, cmp_isN, cmp_isnotN, cmp_in, cmp_notin, cmp_lt, cmp_le, cmp_gt, cmp_ge, idx_S, bi_lenS, bi_maxI, bi_minI, isN_N, isN_I, isN_S, isN_R, truth_B, it_range1, it_range2, LM.isL, app_L, Bool.not_false, Bool.not_true]
    refine h a es ?_ ha
    rw [rangeL_len, List.take_of_length_le (by omega)] at hH
    exact hH
end
end Mine

-- part K01
namespace Mine
open PySem (Str Addr PyData)

theorem ne_of_some {μ : Mem} {a b : Addr} {x : MObj} (ha : μ a = some x) (hb : μ b = none) : a ≠ b := by rintro rfl; rw [ha] at hb; cases hb
theorem ne_of_kind {μ : Mem} {a b : Addr} {x y : MObj} (ha : μ a = some x) (hb : μ b = some y) (h : x ≠ y) : a ≠ b := by rintro rfl; rw [ha] at hb; exact h (Option.some.inj hb)

section
variable {P : Prog} (hP : Com P) (hW : P.fn (.fn (Str.ofString "_law_whole")) = some f__law_whole) (hR : P.fn (.fn (Str.ofString "ring_from")) = some f_ring_from) (hD : P.fn (.fn (Str.ofString "_law_due")) = some f__law_due) (hH : P.fn (.fn (Str.ofString "_law_held")) = some f__law_held)
  (hL : P.fn (.fn (Str.ofString "law")) = some f_law)
include hP hW hR hD hH hL

theorem law01 (l : Addr) (ns : List Int) (μ : Mem) (hl : μ l = some (.arr ns)) : callN P 4 (.fn (Str.ofString "law")) [.ref l] μ (fun v _ => v = .bool true) (fun _ _ => False) := by
  refine call_fn hL rfl ?_
  change wpSs P (callN P 3) f_law.body [some (.ref l), none, none, none, none, none, none, none, none, none, none, none, none, none, none] μ _ _
  unfold f_law
  -- many
  refine seq_cut (J := fun env' μ' => ∃ many : Nat, 1 ≤ many ∧ many ≤ 200 ∧ μ = μ' ∧ env' = [some (.ref l), some (.int many), none, none, none, none, none, none, none, none, none, none, none, none, none]) ?_ ?_
  · intro K j1 j2 j3
    dsimp only [wpSs, wpS, wpE, wpEs, wpT, wpTs, wpB, retVal, List.length_cons, List.length_nil, lg0, lgS, ls0, lsS, Nat.reduceAdd, bin_addI, bin_subI, bin_mulI, bin_fdivI, bin_modI, bin_addS, eq_II, eq_SS, eq_NN, eq_NI, eq_NS, eq_IN, eq_SN, eq_BB, cmp_eq, cmp_ne, cmp_isN, cmp_isnotN, cmp_in, cmp_notin, cmp_lt, cmp_le, cmp_gt, cmp_ge, idx_S, bi_lenS, bi_maxI, bi_minI, isN_N, isN_I, isN_S, isN_R, truth_B, it_range1, it_range2, LM.isL, app_L, Bool.not_false, Bool.not_true]
    refine spec_cell hP hl (by decide) ?_
    dsimp only [wpSs, wpS, wpE, wpEs, wpT, wpTs, wpB, retVal, List.length_cons, List.length_nil, lg0, lgS, ls0, lsS, Nat.reduceAdd, bin_addI, bin_subI, bin_mulI, bin_fdivI, bin_modI, bin_addS, eq_II, eq_SS, eq_NN, eq_NI, eq_NS, eq_IN, eq_SN, eq_BB, cmp_eq, cmp_ne, cmp_isN, cmp_isnotN, cmp_in, cmp_notin, cmp_lt, cmp_le, cmp_gt, cmp_ge, idx_S, bi_lenS, bi_maxI, bi_minI, isN_N, isN_I, isN_S, isN_R, truth_B, it_range1, it_range2, LM.isL, app_L, Bool.not_false, Bool.not_true]
    refine ⟨by decide, ?_⟩
    have hm := mod_pos (b := 12) (by decide) (cellAt ns (0 : Int).toNat)
    exact j1 _ _ ⟨(1 + (cellAt ns (0 : Int).toNat).fmod 12).toNat, by omega, by omega, rfl, by rw [Int.toNat_of_nonneg (by omega)]⟩
  rintro env' _ ⟨many, m1, m2, rfl, rfl⟩
  refine seq_cut (J := fun env' μ' => ∃ many : Nat, 1 ≤ many ∧ many ≤ 200 ∧ μ = μ' ∧ env' = [some (.ref l), some (.int many), none, none, none, none, none, none, none, none, none, none, none, none, none]) ?_ ?_
  · intro K j1 j2 j3
    dsimp only [wpSs, wpS, wpE, wpEs, wpT, wpTs, wpB, retVal, List.length_cons, List.length_nil, lg0, lgS, ls0, lsS, Nat.reduceAdd, bin_addI, bin_subI, bin_mulI, bin_fdivI, bin_modI, bin_addS, eq_II, eq_SS, eq_NN, eq_NI, eq_NS, eq_IN, eq_SN, eq_BB, cmp_eq, cmp_ne, cmp_isN, cmp_isnotN, cmp_in, cmp_notin, cmp_lt, cmp_le, cmp_gt, cmp_ge, idx_S, bi_lenS, bi_maxI, bi_minI, isN_N, isN_I, isN_S, isN_R, truth_B, it_range1, it_range2, LM.isL, app_L, Bool.not_false, Bool.not_true]
    refine spec_cell hP hl (by decide) ?_
    dsimp only [wpSs, wpS, wpE, wpEs, wpT, wpTs, wpB, retVal, List.length_cons, List.length_nil, lg0, lgS, ls0, lsS, Nat.reduceAdd, bin_addI, bin_subI, bin_mulI, bin_fdivI, bin_modI, bin_addS, eq_II, eq_SS, eq_NN, eq_NI, eq_NS, eq_IN, eq_SN, eq_BB, cmp_eq, cmp_ne, cmp_isN, cmp_isnotN, cmp_in, cmp_notin, cmp_lt, cmp_le, cmp_gt, cmp_ge, idx_S, bi_lenS, bi_maxI, bi_minI, isN_N, isN_I, isN_S, isN_R, truth_B, it_range1, it_range2, LM.isL, app_L, Bool.not_false, Bool.not_true]
    refine ⟨⟨by decide, sdl (by decide)⟩, by decide, ?_⟩
    split
    · refine spec_cell hP hl (by decide) ?_
      dsimp only [wpSs, wpS, wpE, wpEs, wpT, wpTs, wpB, retVal, List.length_cons, List.length_nil, lg0, lgS, ls0, lsS, Nat.reduceAdd, bin_addI, bin_subI, bin_mulI, bin_fdivI, bin_modI, bin_addS, eq_II, eq_SS, eq_NN, eq_NI, eq_NS, eq_IN, eq_SN, eq_BB, cmp_eq, cmp_ne, cmp_isN, cmp_isnotN, cmp_in, cmp_notin, cmp_lt, cmp_le, cmp_gt, cmp_ge, idx_S, bi_lenS, bi_maxI, bi_minI, isN_N, isN_I, isN_S, isN_R, truth_B, it_range1, it_range2, LM.isL, app_L, Bool.not_false, Bool.not_true]
      refine ⟨⟨by decide, sdl (by decide)⟩, by decide, ?_⟩
      have hm := mod_pos (b := 200) (by decide) ((cellAt ns (0 : Int).toNat).fdiv 48)
      exact j1 _ _ ⟨(1 + ((cellAt ns (0 : Int).toNat).fdiv 48).fmod 200).toNat, by omega, by omega, rfl, by rw [Int.toNat_of_nonneg (by omega)]⟩
    · exact j1 _ _ ⟨many, m1, m2, rfl, rfl⟩
  clear m1 m2 many
  rintro env' _ ⟨many, m1, m2, rfl, rfl⟩
  -- about
  refine seq_cut (J := fun env' μ' => ∃ about : Bool, μ = μ' ∧ env' = [some (.ref l), some (.int many), some (.bool about), none, none, none, none, none, none, none, none, none, none, none, none]) ?_ ?_
  · intro K j1 j2 j3
    dsimp only [wpSs, wpS, wpE, wpEs, wpT, wpTs, wpB, retVal, List.length_cons, List.length_nil, lg0, lgS, ls0, lsS, Nat.reduceAdd, bin_addI, bin_subI, bin_mulI, bin_fdivI, bin_modI, bin_addS, eq_II, eq_SS, eq_NN, eq_NI, eq_NS, eq_IN, eq_SN, eq_BB, cmp_eq, cmp_ne, cmp_isN, cmp_isnotN, cmp_in, cmp_notin, cmp_lt, cmp_le, cmp_gt, cmp_ge, idx_S, bi_lenS, bi_maxI, bi_minI, isN_N, isN_I, isN_S, isN_R, truth_B, it_range1, it_range2, LM.isL, app_L, Bool.not_false, Bool.not_true]
    refine spec_cell hP hl (by decide) ?_
    dsimp only [wpSs, wpS, wpE, wpEs, wpT, wpTs, wpB, retVal, List.length_cons, List.length_nil, lg0, lgS, ls0, lsS, Nat.reduceAdd, bin_addI, bin_subI, bin_mulI, bin_fdivI, bin_modI, bin_addS, eq_II, eq_SS, eq_NN, eq_NI, eq_NS, eq_IN, eq_SN, eq_BB, cmp_eq, cmp_ne, cmp_isN, cmp_isnotN, cmp_in, cmp_notin, cmp_lt, cmp_le, cmp_gt, cmp_ge, idx_S, bi_lenS, bi_maxI, bi_minI, isN_N, isN_I, isN_S, isN_R, truth_B, it_range1, it_range2, LM.isL, app_L, Bool.not_false, Bool.not_true]
    exact ⟨by decide, j1 _ _ ⟨_, rfl, rfl⟩⟩
  rintro env' _ ⟨about, rfl, rfl⟩
  refine seq_cut (J := fun env' μ' => ∃ size : Nat, 1 ≤ size ∧ size ≤ 200 ∧ μ = μ' ∧ env' = [some (.ref l), some (.int many), some (.bool about), some (.int size), none, none, none, none, none, none, none, none, none, none, none]) ?_ ?_
  · intro K j1 j2 j3
    dsimp only [wpSs, wpS, wpE, wpEs, wpT, wpTs, wpB, retVal, List.length_cons, List.length_nil, lg0, lgS, ls0, lsS, Nat.reduceAdd, bin_addI, bin_subI, bin_mulI, bin_fdivI, bin_modI, bin_addS, eq_II, eq_SS, eq_NN, eq_NI, eq_NS, eq_IN, eq_SN, eq_BB, cmp_eq, cmp_ne, cmp_isN, cmp_isnotN, cmp_in, cmp_notin, cmp_lt, cmp_le, cmp_gt, cmp_ge, idx_S, bi_lenS, bi_maxI, bi_minI, isN_N, isN_I, isN_S, isN_R, truth_B, it_range1, it_range2, LM.isL, app_L, Bool.not_false, Bool.not_true]
    refine spec_cell hP hl (by decide) ?_
    dsimp only [wpSs, wpS, wpE, wpEs, wpT, wpTs, wpB, retVal, List.length_cons, List.length_nil, lg0, lgS, ls0, lsS, Nat.reduceAdd, bin_addI, bin_subI, bin_mulI, bin_fdivI, bin_modI, bin_addS, eq_II, eq_SS, eq_NN, eq_NI, eq_NS, eq_IN, eq_SN, eq_BB, cmp_eq, cmp_ne, cmp_isN, cmp_isnotN, cmp_in, cmp_notin, cmp_lt, cmp_le, cmp_gt, cmp_ge, idx_S, bi_lenS, bi_maxI, bi_minI, isN_N, isN_I, isN_S, isN_R, truth_B, it_range1, it_range2, LM.isL, app_L, Bool.not_false, Bool.not_true]
    refine ⟨⟨by decide, sdl (by decide)⟩, by decide, ?_⟩
    have hm := mod_pos (b := 12) (by decide) ((cellAt ns (1 : Int).toNat).fdiv 3)
    exact j1 _ _ ⟨(1 + ((cellAt ns (1 : Int).toNat).fdiv 3).fmod 12).toNat, by omega, by omega, rfl, by rw [Int.toNat_of_nonneg (by omega)]⟩
  rintro env' _ ⟨size, z1, z2, rfl, rfl⟩
  refine seq_cut (J := fun env' μ' => ∃ size : Nat, 1 ≤ size ∧ size ≤ 200 ∧ (about = true → size = many) ∧ μ = μ' ∧ env' = [some (.ref l), some (.int many), some (.bool about), some (.int size), none, none, none, none, none, none, none, none, none, none, none]) ?_ ?_
  · intro K j1 j2 j3
    dsimp only [wpSs, wpS, wpE, wpEs, wpT, wpTs, wpB, retVal, List.length_cons, List.length_nil, lg0, lgS, ls0, lsS, Nat.reduceAdd, bin_addI, bin_subI, bin_mulI, bin_fdivI, bin_modI, bin_addS, eq_II, eq_SS, eq_NN, eq_NI, eq_NS, eq_IN, eq_SN, eq_BB, cmp_eq, cmp_ne, cmp_isN, cmp_isnotN, cmp_in, cmp_notin, cmp_lt, cmp_le, cmp_gt, cmp_ge, idx_S, bi_lenS, bi_maxI, bi_minI, isN_N, isN_I, isN_S, isN_R, truth_B, it_range1, it_range2, LM.isL, app_L, Bool.not_false, Bool.not_true]
    cases about with
    | true => exact j1 _ _ ⟨many, m1, m2, fun _ => rfl, rfl, rfl⟩
    | false => exact j1 _ _ ⟨size, z1, z2, (fun h => by cases h), rfl, rfl⟩
  clear z1 z2 size
  rintro env' _ ⟨size, z1, z2, za, rfl, rfl⟩
  -- names
  refine seq_cut (J := fun env' μ' => ∃ (an : Addr) (xs : List Str), xs.length = size ∧ xs.Nodup ∧ μ' l = some (.arr ns) ∧ μ' an = some (.list (xs.map .str)) ∧ env' = [some (.ref l), some (.int many), some (.bool about), some (.int size), some (.ref an), none, none, none, none, none, none, none, none, none, none]) ?_ ?_
  · intro K j1 j2 j3
    dsimp only [wpSs, wpS, wpE, wpEs, wpT, wpTs, wpB, retVal, List.length_cons, List.length_nil, lg0, lgS, ls0, lsS, Nat.reduceAdd, bin_addI, bin_subI, bin_mulI, bin_fdivI, bin_modI, bin_addS, eq_II, eq_SS, eq_NN, eq_NI, eq_NS, eq_IN, eq_SN, eq_BB, cmp_eq, cmp_ne, cmp_isN, cmp_isnotN, cmp_in, cmp_notin, cmp_lt, cmp_le, cmp_gt, cmp_ge, idx_S, bi_lenS, bi_maxI, bi_minI, isN_N, isN_I, isN_S, isN_R, truth_B, it_range1, it_range2, LM.isL, app_L, Bool.not_false, Bool.not_true]
    refine spec_cell hP hl (by decide) (spec_names hP (by omega) fun a xs ha h1 h2 h3 => ?_)
    exact j1 _ _ ⟨a, xs, h1, h2, updO hl ha, updS _ _ _, rfl⟩
  clear hl μ
  rintro env' μ ⟨an, xs, x1, x2, hl, hn, rfl⟩
  refine seq_cut (J := fun env' μ' => ∃ cell : Int, μ = μ' ∧ env' = [some (.ref l), some (.int many), some (.bool about), some (.int size), some (.ref an), some (.int cell), none, none, none, none, none, none, none, none, none]) ?_ ?_
  · intro K j1 j2 j3
    dsimp only [wpSs, wpS, wpE, wpEs, wpT, wpTs, wpB, retVal, List.length_cons, List.length_nil, lg0, lgS, ls0, lsS, Nat.reduceAdd, bin_addI, bin_subI, bin_mulI, bin_fdivI, bin_modI, bin_addS, eq_II, eq_SS, eq_NN, eq_NI, eq_NS, eq_IN, eq_SN, eq_BB, cmp_eq, cmp_ne, cmp_isN, cmp_isnotN, cmp_in, cmp_notin, cmp_lt, cmp_le, cmp_gt, cmp_ge, idx_S, bi_lenS, bi_maxI, bi_minI, isN_N, isN_I, isN_S, isN_R, truth_B, it_range1, it_range2, LM.isL, app_L, Bool.not_false, Bool.not_true]
    exact spec_cell hP hl (by decide) (j1 _ _ ⟨_, rfl, rfl⟩)
  rintro env' _ ⟨cell, rfl, rfl⟩
  -- held
  refine seq_cut (J := fun env' μ' => ∃ (ah : Addr) (es : List (Str × Val)), HOk many xs es ∧ μ' l = some (.arr ns) ∧ μ' an = some (.list (xs.map .str)) ∧ μ' ah = some (.sdict es) ∧ env' = [some (.ref l), some (.int many), some (.bool about), some (.int size), some (.ref an), some (.int cell), some (.ref ah), none, none, none, none, none, none, none, none]) ?_ ?_
  · intro K j1 j2 j3
    dsimp only [wpSs, wpS, wpE, wpEs, wpT, wpTs, wpB, retVal, List.length_cons, List.length_nil, lg0, lgS, ls0, lsS, Nat.reduceAdd, bin_addI, bin_subI, bin_mulI, bin_fdivI, bin_modI, bin_addS, eq_II, eq_SS, eq_NN, eq_NI, eq_NS, eq_IN, eq_SN, eq_BB, cmp_eq, cmp_ne, cmp_isN, cmp_isnotN, cmp_in, cmp_notin, cmp_lt, cmp_le, cmp_gt, cmp_ge, idx_S, bi_lenS, bi_maxI, bi_minI, isN_N, isN_I, isN_S, isN_R, truth_B, it_range1, it_range2, LM.isL, app_L, Bool.not_false, Bool.not_true]
    refine spec_held hP hH hn x2 (by omega) (by omega) (fun h => by rw [x1, za h]; exact Nat.le_refl _) fun a es hes ha => ?_
    exact j1 _ _ ⟨a, es, hes, updO hl ha, updO hn ha, updS _ _ _, rfl⟩
  clear hl hn μ
  rintro env' μ ⟨ah, es, hes, hl, hn, hh, rfl⟩
  -- wants
  refine seq_cut (J := fun env' μ' => ∃ (aw : Addr), an ≠ aw ∧ μ' l = some (.arr ns) ∧ μ' an = some (.list (xs.map .str)) ∧ μ' ah = some (.sdict es) ∧ μ' aw = some (.list []) ∧ env' = [some (.ref l), some (.int many), some (.bool about), some (.int size), some (.ref an), some (.int cell), some (.ref ah), some (.ref aw), none, none, none, none, none, none, none]) ?_ ?_
  · intro K j1 j2 j3
    dsimp only [wpSs, wpS, wpE, wpEs, wpT, wpTs, wpB, retVal, List.length_cons, List.length_nil, lg0, lgS, ls0, lsS, Nat.reduceAdd, bin_addI, bin_subI, bin_mulI, bin_fdivI, bin_modI, bin_addS, eq_II, eq_SS, eq_NN, eq_NI, eq_NS, eq_IN, eq_SN, eq_BB, cmp_eq, cmp_ne, cmp_isN, cmp_isnotN, cmp_in, cmp_notin, cmp_lt, cmp_le, cmp_gt, cmp_ge, idx_S, bi_lenS, bi_maxI, bi_minI, isN_N, isN_I, isN_S, isN_R, truth_B, it_range1, it_range2, LM.isL, app_L, Bool.not_false, Bool.not_true]
    exact ⟨by decide, fun a ha => j1 _ _ ⟨a, ne_of_some hn ha, updO hl ha, updO hn ha, updO hh ha, updS _ _ _, rfl⟩⟩
  clear hl hn hh μ
  rintro env' μ ⟨aw, hne, hl, hn, hh, hw, rfl⟩
  refine seq_cut (J := fun env' μ' => ∃ far : Int, μ = μ' ∧ env' = [some (.ref l), some (.int many), some (.bool about), some (.int size), some (.ref an), some (.int cell), some (.ref ah), some (.ref aw), some (.int far), none, none, none, none, none, none]) ?_ ?_
  · intro K j1 j2 j3
    dsimp only [wpSs, wpS, wpE, wpEs, wpT, wpTs, wpB, retVal, List.length_cons, List.length_nil, lg0, lgS, ls0, lsS, Nat.reduceAdd, bin_addI, bin_subI, bin_mulI, bin_fdivI, bin_modI, bin_addS, eq_II, eq_SS, eq_NN, eq_NI, eq_NS, eq_IN, eq_SN, eq_BB, cmp_eq, cmp_ne, cmp_isN, cmp_isnotN, cmp_in, cmp_notin, cmp_lt, cmp_le, cmp_gt, cmp_ge, idx_S, bi_lenS, bi_maxI, bi_minI, isN_N, isN_I, isN_S, isN_R, truth_B, it_range1, it_range2, LM.isL, app_L, Bool.not_false, Bool.not_true]
    refine spec_cell hP hl (by decide) ?_
    dsimp only [wpSs, wpS, wpE, wpEs, wpT, wpTs, wpB, retVal, List.length_cons, List.length_nil, lg0, lgS, ls0, lsS, Nat.reduceAdd, bin_addI, bin_subI, bin_mulI, bin_fdivI, bin_modI, bin_addS, eq_II, eq_SS, eq_NN, eq_NI, eq_NS, eq_IN, eq_SN, eq_BB, cmp_eq, cmp_ne, cmp_isN, cmp_isnotN, cmp_in, cmp_notin, cmp_lt, cmp_le, cmp_gt, cmp_ge, idx_S, bi_lenS, bi_maxI, bi_minI, isN_N, isN_I, isN_S, isN_R, truth_B, it_range1, it_range2, LM.isL, app_L, Bool.not_false, Bool.not_true]
    refine ⟨⟨by decide, sdl (by decide)⟩, ?_, j1 _ _ ⟨_, rfl, rfl⟩⟩
    split <;> omega
  rintro env' _ ⟨far, rfl, rfl⟩
  refine seq_cut (J := fun env' μ' => ∃ (vs : List Val) (x9 x10 : Option Val), WOk many xs vs ∧ μ' l = some (.arr ns) ∧ μ' an = some (.list (xs.map .str)) ∧ μ' ah = some (.sdict es) ∧ μ' aw = some (.list vs) ∧ env' = [some (.ref l), some (.int many), some (.bool about), some (.int size), some (.ref an), some (.int cell), some (.ref ah), some (.ref aw), some (.int far), x9, x10, none, none, none, none]) ?_ ?_
  · intro K j1 j2 j3
    rw [wpS]
    dsimp only [wpE, wpEs, lg0, lgS, it_range1]
    refine ⟨by omega, ?_⟩
    refine forLoop_inv (fun i env' μ' => ∃ (vs : List Val) (x9 x10 : Option Val), WOk i xs vs ∧ μ' l = some (.arr ns) ∧ μ' an = some (.list (xs.map .str)) ∧ μ' ah = some (.sdict es) ∧ μ' aw = some (.list vs) ∧ env' = [some (.ref l), some (.int many), some (.bool about), some (.int size), some (.ref an), some (.int cell), some (.ref ah), some (.ref aw), some (.int far), x9, x10, none, none, none, none])
      ⟨[], none, none, ⟨rfl, fun v hv => nomatch hv⟩, hl, hn, hh, hw, rfl⟩ trivial ?_ ?_
    · clear hl hn hh hw μ
      rintro i v env μ K' hv ⟨vs, x9, x10, hvs, hl, hn, hh, hw, rfl⟩ _ k1 k2 k3
      obtain ⟨rfl, hi⟩ := rangeL_get hv
      have hi' : i < many := by omega
      simp only [bindT, List.set_cons_zero, List.set_cons_succ, Int.zero_add]
      have getN : ∀ j : Int, ∃ x ∈ xs, pyGet (xs.map Val.str) (j.fmod size) = some (.str x) := by
        intro j
        have hm := mod_pos (b := (size : Int)) (by omega) j
        have hlt : (j.fmod size).toNat < xs.length := by omega
        refine ⟨xs[(j.fmod size).toNat], List.getElem_mem hlt, ?_⟩
        unfold pyGet
        rw [if_pos hm.1, List.getElem?_map, List.getElem?_eq_getElem hlt]; rfl
      refine seq_cut (J := fun env' μ' => ∃ x ∈ xs, μ = μ' ∧ env' = [some (.ref l), some (.int many), some (.bool about), some (.int size), some (.ref an), some (.int cell), some (.ref ah), some (.ref aw), some (.int far), some (.int (i : Int)), some (.str x), none, none, none, none]) ?_ ?_
      · intro K j1 j2 j3
        dsimp only [wpSs, wpS, wpE, wpEs, wpT, wpTs, wpB, retVal, List.length_cons, List.length_nil, lg0, lgS, ls0, lsS, Nat.reduceAdd, bin_addI, bin_subI, bin_mulI, bin_fdivI, bin_modI, bin_addS, eq_II, eq_SS, eq_NN, eq_NI, eq_NS, eq_IN, eq_SN, eq_BB, cmp_eq, cmp_ne, cmp_isN, cmp_isnotN, cmp_in, cmp_notin, cmp_lt, cmp_le, cmp_gt, cmp_ge, idx_S, bi_lenS, bi_maxI, bi_minI, isN_N, isN_I, isN_S, isN_R, truth_B, it_range1, it_range2, LM.isL, app_L, Bool.not_false, Bool.not_true]
        refine spec_mixed hP ?_ ⟨by omega, ?_⟩
        · omega
        show wpIdx _ _ _ _
        rw [idx_L hn]
        obtain ⟨x, hx, e⟩ := getN (mixedF cell (i + 100))
        exact ⟨_, e, j1 _ _ ⟨x, hx, rfl, rfl⟩⟩
      rintro env' _ ⟨x, hx, rfl, rfl⟩
      refine seq_cut (J := fun env' μ' => ∃ x ∈ xs, μ = μ' ∧ env' = [some (.ref l), some (.int many), some (.bool about), some (.int size), some (.ref an), some (.int cell), some (.ref ah), some (.ref aw), some (.int far), some (.int (i : Int)), some (.str x), none, none, none, none]) ?_ ?_
      · intro K j1 j2 j3
        dsimp only [wpSs, wpS, wpE, wpEs, wpT, wpTs, wpB, retVal, List.length_cons, List.length_nil, lg0, lgS, ls0, lsS, Nat.reduceAdd, bin_addI, bin_subI, bin_mulI, bin_fdivI, bin_modI, bin_addS, eq_II, eq_SS, eq_NN, eq_NI, eq_NS, eq_IN, eq_SN, eq_BB, cmp_eq, cmp_ne, cmp_isN, cmp_isnotN, cmp_in, cmp_notin, cmp_lt, cmp_le, cmp_gt, cmp_ge, idx_S, bi_lenS, bi_maxI, bi_minI, isN_N, isN_I, isN_S, isN_R, truth_B, it_range1, it_range2, LM.isL, app_L, Bool.not_false, Bool.not_true]
        cases about with
        | false => exact j1 _ _ ⟨x, hx, rfl, rfl⟩
        | true =>
          refine ⟨by omega, ?_⟩
          rw [idx_L hn]
          obtain ⟨x, hx, e⟩ := getN (i + far)
          exact ⟨_, e, j1 _ _ ⟨x, hx, rfl, rfl⟩⟩
      clear hx x
      rintro env' _ ⟨x, hx, rfl, rfl⟩
      refine seq_cut (J := fun env' μ' => ∃ v, (v = Val.none ∨ ∃ x ∈ xs, v = .str x) ∧ μ = μ' ∧ env' = [some (.ref l), some (.int many), some (.bool about), some (.int size), some (.ref an), some (.int cell), some (.ref ah), some (.ref aw), some (.int far), some (.int (i : Int)), some v, none, none, none, none]) ?_ ?_
      · intro K j1 j2 j3
        have yes := j1 _ _ ⟨.none, .inl rfl, rfl, rfl⟩
        have no := j1 _ _ ⟨.str x, .inr ⟨x, hx, rfl⟩, rfl, rfl⟩
        obtain ⟨u, hu, hum⟩ := look_of_mem (es := es) (x := x) (by rw [hes.1]; exact hx)
        dsimp only [wpSs, wpS, wpE, wpEs, wpT, wpTs, wpB, retVal, List.length_cons, List.length_nil, lg0, lgS, ls0, lsS, Nat.reduceAdd, bin_addI, bin_subI, bin_mulI, bin_fdivI, bin_modI, bin_addS, eq_II, eq_SS, eq_NN, eq_NI, eq_NS, eq_IN, eq_SN, eq_BB, cmp_eq, cmp_ne, cmp_isN, cmp_isnotN, cmp_in, cmp_notin, cmp_lt, cmp_le, cmp_gt, cmp_ge, idx_S, bi_lenS, bi_maxI, bi_minI, isN_N, isN_I, isN_S, isN_R, truth_B, it_range1, it_range2, LM.isL, app_L, Bool.not_false, Bool.not_true]
        rw [idx_D hh]
        refine ⟨u, hu, ?_⟩
        have two : ∀ r : Bool, (if r = true then K Flow.next [some (.ref l), some (.int many), some (.bool about), some (.int size), some (.ref an), some (.int cell), some (.ref ah), some (.ref aw), some (.int far), some (.int (i : Int)), some .none, none, none, none, none] μ
            else K Flow.next [some (.ref l), some (.int many), some (.bool about), some (.int size), some (.ref an), some (.int cell), some (.ref ah), some (.ref aw), some (.int far), some (.int (i : Int)), some (.str x), none, none, none, none] μ) := by
          intro r
          split
          · exact yes
          · exact no
        clear j1 k1 k2 k3
        have after : ∀ r : Bool, (if r = false then if (!about) = true then callN P 3 (Callee.fn (Str.ofString "_law_mixed")) [Val.int cell, Val.int (↑i + 200)] μ (fun va μ₁ => wpBin BOp.mod va (Val.int 4) μ₁ fun va μ₁ => wpEq va (Val.int 0) μ₁ fun r => if r = true then K Flow.next [some (.ref l), some (.int many), some (.bool about), some (.int size), some (.ref an), some (.int cell), some (.ref ah), some (.ref aw), some (.int far), some (.int (i : Int)), some .none, none, none, none, none] μ₁
            else K Flow.next [some (.ref l), some (.int many), some (.bool about), some (.int size), some (.ref an), some (.int cell), some (.ref ah), some (.ref aw), some (.int far), some (.int (i : Int)), some (.str x), none, none, none, none] μ₁) (fun _ _ => False)
            else K Flow.next [some (.ref l), some (.int many), some (.bool about), some (.int size), some (.ref an), some (.int cell), some (.ref ah), some (.ref aw), some (.int far), some (.int (i : Int)), some (.str x), none, none, none, none] μ
            else K Flow.next [some (.ref l), some (.int many), some (.bool about), some (.int size), some (.ref an), some (.int cell), some (.ref ah), some (.ref aw), some (.int far), some (.int (i : Int)), some .none, none, none, none, none] μ) := by
          intro r
          split
          · split
            · refine spec_mixed hP ?_ ?_
              · omega
              dsimp only [wpSs, wpS, wpE, wpEs, wpT, wpTs, wpB, retVal, List.length_cons, List.length_nil, lg0, lgS, ls0, lsS, Nat.reduceAdd, bin_addI, bin_subI, bin_mulI, bin_fdivI, bin_modI, bin_addS, eq_II, eq_SS, eq_NN, eq_NI, eq_NS, eq_IN, eq_SN, eq_BB, cmp_eq, cmp_ne, cmp_isN, cmp_isnotN, cmp_in, cmp_notin, cmp_lt, cmp_le, cmp_gt, cmp_ge, idx_S, bi_lenS, bi_maxI, bi_minI, isN_N, isN_I, isN_S, isN_R, truth_B, it_range1, it_range2, LM.isL, app_L, Bool.not_false, Bool.not_true]
              exact ⟨by decide, two _⟩
            · exact no
          · exact yes
        rcases hes.2 _ hum with e | ⟨j, _, _, e⟩
        · simp only at e
          subst e
          dsimp only [wpSs, wpS, wpE, wpEs, wpT, wpTs, wpB, retVal, List.length_cons, List.length_nil, lg0, lgS, ls0, lsS, Nat.reduceAdd, bin_addI, bin_subI, bin_mulI, bin_fdivI, bin_modI, bin_addS, eq_II, eq_SS, eq_NN, eq_NI, eq_NS, eq_IN, eq_SN, eq_BB, cmp_eq, cmp_ne, cmp_isN, cmp_isnotN, cmp_in, cmp_notin, cmp_lt, cmp_le, cmp_gt, cmp_ge, idx_S, bi_lenS, bi_maxI, bi_minI, isN_N, isN_I, isN_S, isN_R, truth_B, it_range1, it_range2, LM.isL, app_L, Bool.not_false, Bool.not_true, reduceIte, reduceCtorEq, Bool.false_eq_true, Bool.true_eq_false]
          have := after false
          simp only [reduceIte] at this
          exact this
        · simp only at e
          subst e
          dsimp only [wpSs, wpS, wpE, wpEs, wpT, wpTs, wpB, retVal, List.length_cons, List.length_nil, lg0, lgS, ls0, lsS, Nat.reduceAdd, bin_addI, bin_subI, bin_mulI, bin_fdivI, bin_modI, bin_addS, eq_II, eq_SS, eq_NN, eq_NI, eq_NS, eq_IN, eq_SN, eq_BB, cmp_eq, cmp_ne, cmp_isN, cmp_isnotN, cmp_in, cmp_notin, cmp_lt, cmp_le, cmp_gt, cmp_ge, idx_S, bi_lenS, bi_maxI, bi_minI, isN_N, isN_I, isN_S, isN_R, truth_B, it_range1, it_range2, LM.isL, app_L, Bool.not_false, Bool.not_true, reduceIte, reduceCtorEq, Bool.false_eq_true, Bool.true_eq_false]
          exact after _
      rintro env' _ ⟨v, hv, rfl, rfl⟩
      dsimp only [wpSs, wpS, wpE, wpEs, wpT, wpTs, wpB, retVal, List.length_cons, List.length_nil, lg0, lgS, ls0, lsS, Nat.reduceAdd, bin_addI, bin_subI, bin_mulI, bin_fdivI, bin_modI, bin_addS, eq_II, eq_SS, eq_NN, eq_NI, eq_NS, eq_IN, eq_SN, eq_BB, cmp_eq, cmp_ne, cmp_isN, cmp_isnotN, cmp_in, cmp_notin, cmp_lt, cmp_le, cmp_gt, cmp_ge, idx_S, bi_lenS, bi_maxI, bi_minI, isN_N, isN_I, isN_S, isN_R, truth_B, it_range1, it_range2, LM.isL, app_L, Bool.not_false, Bool.not_true]
      rw [hw]
      dsimp only [wpSs, wpS, wpE, wpEs, wpT, wpTs, wpB, retVal, List.length_cons, List.length_nil, lg0, lgS, ls0, lsS, Nat.reduceAdd, bin_addI, bin_subI, bin_mulI, bin_fdivI, bin_modI, bin_addS, eq_II, eq_SS, eq_NN, eq_NI, eq_NS, eq_IN, eq_SN, eq_BB, cmp_eq, cmp_ne, cmp_isN, cmp_isnotN, cmp_in, cmp_notin, cmp_lt, cmp_le, cmp_gt, cmp_ge, idx_S, bi_lenS, bi_maxI, bi_minI, isN_N, isN_I, isN_S, isN_R, truth_B, it_range1, it_range2, LM.isL, app_L, Bool.not_false, Bool.not_true]
      refine ⟨rfl, by rw [hvs.1]; unfold szl; omega, k1 _ _ ⟨vs ++ [v], _, _, ⟨by simp [hvs.1], fun u hu => ?_⟩, ?_, ?_, ?_, updS _ _ _, rfl⟩ trivial⟩
      · rcases List.mem_append.mp hu with q | q
        · exact hvs.2 u q
        · rw [List.mem_singleton] at q; subst q; exact hv
      · exact updN hl (ne_of_kind hl hw (by simp))
      · exact updN hn hne
      · exact updN hh (ne_of_kind hh hw (by simp))
    · rintro env' μ' ⟨vs, x9, x10, h1, h2, h3, h4, h5, rfl⟩ _
      rw [rangeL_len] at h1
      have e : ((many : Int) - 0).toNat = many := by omega
      rw [e] at h1
      exact j1 _ _ ⟨vs, x9, x10, h1, h2, h3, h4, h5, rfl⟩
  clear hl hn hh hw μ
  rintro env' μ ⟨vs, x9, x10, hvs, hl, hn, hh, hw, rfl⟩
  refine seq_cut (J := fun env' μ' => ∃ (vs : List Val), WOk many xs vs ∧ μ' l = some (.arr ns) ∧ μ' ah = some (.sdict es) ∧ μ' aw = some (.list vs) ∧ env' = [some (.ref l), some (.int many), some (.bool about), some (.int size), some (.ref an), some (.int cell), some (.ref ah), some (.ref aw), some (.int far), x9, x10, none, none, none, none]) ?_ ?_
  · intro K j1 j2 j3
    dsimp only [wpSs, wpS, wpE, wpEs, wpT, wpTs, wpB, retVal, List.length_cons, List.length_nil, lg0, lgS, ls0, lsS, Nat.reduceAdd, bin_addI, bin_subI, bin_mulI, bin_fdivI, bin_modI, bin_addS, eq_II, eq_SS, eq_NN, eq_NI, eq_NS, eq_IN, eq_SN, eq_BB, cmp_eq, cmp_ne, cmp_isN, cmp_isnotN, cmp_in, cmp_notin, cmp_lt, cmp_le, cmp_gt, cmp_ge, idx_S, bi_lenS, bi_maxI, bi_minI, isN_N, isN_I, isN_S, isN_R, truth_B, it_range1, it_range2, LM.isL, app_L, Bool.not_false, Bool.not_true]
    refine spec_cell hP hl (by decide) ?_
    dsimp only [wpSs, wpS, wpE, wpEs, wpT, wpTs, wpB, retVal, List.length_cons, List.length_nil, lg0, lgS, ls0, lsS, Nat.reduceAdd, bin_addI, bin_subI, bin_mulI, bin_fdivI, bin_modI, bin_addS, eq_II, eq_SS, eq_NN, eq_NI, eq_NS, eq_IN, eq_SN, eq_BB, cmp_eq, cmp_ne, cmp_isN, cmp_isnotN, cmp_in, cmp_notin, cmp_lt, cmp_le, cmp_gt, cmp_ge, idx_S, bi_lenS, bi_maxI, bi_minI, isN_N, isN_I, isN_S, isN_R, truth_B, it_range1, it_range2, LM.isL, app_L, Bool.not_false, Bool.not_true]
    refine ⟨by decide, ?_⟩
    split
    · refine spec_cell hP hl (by decide) ?_
      dsimp only [wpSs, wpS, wpE, wpEs, wpT, wpTs, wpB, retVal, List.length_cons, List.length_nil, lg0, lgS, ls0, lsS, Nat.reduceAdd, bin_addI, bin_subI, bin_mulI, bin_fdivI, bin_modI, bin_addS, eq_II, eq_SS, eq_NN, eq_NI, eq_NS, eq_IN, eq_SN, eq_BB, cmp_eq, cmp_ne, cmp_isN, cmp_isnotN, cmp_in, cmp_notin, cmp_lt, cmp_le, cmp_gt, cmp_ge, idx_S, bi_lenS, bi_maxI, bi_minI, isN_N, isN_I, isN_S, isN_R, truth_B, it_range1, it_range2, LM.isL, app_L, Bool.not_false, Bool.not_true]
      refine ⟨by omega, ?_⟩
      rw [set_L hw]
      have hm := mod_pos (b := (many : Int)) (by omega) (cellAt ns (5 : Int).toNat)
      refine ⟨_, ?_, j1 _ _ ⟨vs.set ((cellAt ns (5 : Int).toNat).fmod many).toNat .none, ⟨by rw [List.length_set]; exact hvs.1, fun v hv => ?_⟩, updN hl (ne_of_kind hl hw (by simp)), updN hh (ne_of_kind hh hw (by simp)), updS _ _ _, rfl⟩⟩
      · unfold setAt
        rw [if_pos ⟨hm.1, by rw [hvs.1]; exact hm.2⟩]
      · rcases List.mem_or_eq_of_mem_set hv with q | q
        · exact hvs.2 v q
        · exact .inl q
    · exact j1 _ _ ⟨vs, hvs, hl, hh, hw, rfl⟩
  clear hl hn hh hw hvs vs μ
  rintro env' μ ⟨vs, hvs, hl, hh, hw, rfl⟩
  -- start
  refine seq_cut (J := fun env' μ' => ∃ start : Int, 0 ≤ start ∧ start < many ∧ μ = μ' ∧ env' = [some (.ref l), some (.int many), some (.bool about), some (.int size), some (.ref an), some (.int cell), some (.ref ah), some (.ref aw), some (.int far), x9, x10, some (.int start), none, none, none]) ?_ ?_
  · intro K j1 j2 j3
    dsimp only [wpSs, wpS, wpE, wpEs, wpT, wpTs, wpB, retVal, List.length_cons, List.length_nil, lg0, lgS, ls0, lsS, Nat.reduceAdd, bin_addI, bin_subI, bin_mulI, bin_fdivI, bin_modI, bin_addS, eq_II, eq_SS, eq_NN, eq_NI, eq_NS, eq_IN, eq_SN, eq_BB, cmp_eq, cmp_ne, cmp_isN, cmp_isnotN, cmp_in, cmp_notin, cmp_lt, cmp_le, cmp_gt, cmp_ge, idx_S, bi_lenS, bi_maxI, bi_minI, isN_N, isN_I, isN_S, isN_R, truth_B, it_range1, it_range2, LM.isL, app_L, Bool.not_false, Bool.not_true]
    refine spec_cell hP hl (by decide) ?_
    dsimp only [wpSs, wpS, wpE, wpEs, wpT, wpTs, wpB, retVal, List.length_cons, List.length_nil, lg0, lgS, ls0, lsS, Nat.reduceAdd, bin_addI, bin_subI, bin_mulI, bin_fdivI, bin_modI, bin_addS, eq_II, eq_SS, eq_NN, eq_NI, eq_NS, eq_IN, eq_SN, eq_BB, cmp_eq, cmp_ne, cmp_isN, cmp_isnotN, cmp_in, cmp_notin, cmp_lt, cmp_le, cmp_gt, cmp_ge, idx_S, bi_lenS, bi_maxI, bi_minI, isN_N, isN_I, isN_S, isN_R, truth_B, it_range1, it_range2, LM.isL, app_L, Bool.not_false, Bool.not_true]
    have hm := mod_pos (b := (many : Int)) (by omega) (cellAt ns (6 : Int).toNat)
    exact ⟨by omega, j1 _ _ ⟨_, hm.1, hm.2, rfl, rfl⟩⟩
  rintro env' _ ⟨start, s0, s1, rfl, rfl⟩
  -- handed
  refine seq_cut (J := fun env' μ' => ∃ (a0 a1 ad : Addr), μ' ah = some (.sdict es) ∧ μ' aw = some (.list vs) ∧ μ' a0 = some (.list vs) ∧ μ' a1 = some (.sdict es) ∧ μ' ad = some (.list [.ref a0, .ref a1]) ∧ env' = [some (.ref l), some (.int many), some (.bool about), some (.int size), some (.ref an), some (.int cell), some (.ref ah), some (.ref aw), some (.int far), x9, x10, some (.int start), some (.ref ad), none, none]) ?_ ?_
  · intro K j1 j2 j3
    dsimp only [wpSs, wpS, wpE, wpEs, wpT, wpTs, wpB, retVal, List.length_cons, List.length_nil, lg0, lgS, ls0, lsS, Nat.reduceAdd, bin_addI, bin_subI, bin_mulI, bin_fdivI, bin_modI, bin_addS, eq_II, eq_SS, eq_NN, eq_NI, eq_NS, eq_IN, eq_SN, eq_BB, cmp_eq, cmp_ne, cmp_isN, cmp_isnotN, cmp_in, cmp_notin, cmp_lt, cmp_le, cmp_gt, cmp_ge, idx_S, bi_lenS, bi_maxI, bi_minI, isN_N, isN_I, isN_S, isN_R, truth_B, it_range1, it_range2, LM.isL, app_L, Bool.not_false, Bool.not_true]
    rw [list_L hw]
    intro a0 h0
    rw [dict_D (updO hh h0)]
    intro a1 h1
    refine ⟨by decide, fun ad h2 => j1 _ _ ⟨a0, a1, ad, updO (updO (updO hh h0) h1) h2, updO (updO (updO hw h0) h1) h2, updO (updO (updS _ _ _) h1) h2, updO (updS _ _ _) h2, updS _ _ _, rfl⟩⟩
  clear hl hh hw μ
  rintro env' μ ⟨a0, a1, ad, hh, hw, h0, h1, hd, rfl⟩
  -- found
  refine seq_cut (J := fun env' μ' => ∃ (af : Addr), μ' ah = some (.sdict es) ∧ μ' aw = some (.list vs) ∧ μ' a0 = some (.list vs) ∧ μ' a1 = some (.sdict es) ∧ μ' ad = some (.list [.ref a0, .ref a1]) ∧ μ' af = some (.list ((chase (nxt vs es) start (many + 1) [] start).map .int)) ∧ env' = [some (.ref l), some (.int many), some (.bool about), some (.int size), some (.ref an), some (.int cell), some (.ref ah), some (.ref aw), some (.int far), x9, x10, some (.int start), some (.ref ad), some (.ref af), none]) ?_ ?_
  · intro K j1 j2 j3
    dsimp only [wpSs, wpS, wpE, wpEs, wpT, wpTs, wpB, retVal, List.length_cons, List.length_nil, lg0, lgS, ls0, lsS, Nat.reduceAdd, bin_addI, bin_subI, bin_mulI, bin_fdivI, bin_modI, bin_addS, eq_II, eq_SS, eq_NN, eq_NI, eq_NS, eq_IN, eq_SN, eq_BB, cmp_eq, cmp_ne, cmp_isN, cmp_isnotN, cmp_in, cmp_notin, cmp_lt, cmp_le, cmp_gt, cmp_ge, idx_S, bi_lenS, bi_maxI, bi_minI, isN_N, isN_I, isN_S, isN_R, truth_B, it_range1, it_range2, LM.isL, app_L, Bool.not_false, Bool.not_true]
    rw [idx_L hd]
    refine ⟨.ref a0, rfl, ?_⟩
    rw [idx_L hd]
    refine ⟨.ref a1, rfl, ?_⟩
    refine spec_ring hR h0 h1 hvs hes s0 s1 (by omega) fun a μ' ext _ ha => ?_
    exact j1 _ _ ⟨a, ext _ _ hh, ext _ _ hw, ext _ _ h0, ext _ _ h1, ext _ _ hd, ha, rfl⟩
  clear hh hw h0 h1 hd μ
  rintro env' μ ⟨af, hh, hw, h0, h1, hd, hf, rfl⟩
  have flatR : ∀ v ∈ (chase (nxt vs es) start (many + 1) [] start).map Val.int, flatV v = true := by
    intro v hv
    obtain ⟨i, _, rfl⟩ := List.mem_map.mp hv
    rfl
  refine seq_cut (J := fun env' μ' => μ' ah = some (.sdict es) ∧ μ' aw = some (.list vs) ∧ μ' a0 = some (.list vs) ∧ μ' a1 = some (.sdict es) ∧ μ' ad = some (.list [.ref a0, .ref a1]) ∧ μ' af = some (.list ((chase (nxt vs es) start (many + 1) [] start).map .int)) ∧ env' = [some (.ref l), some (.int many), some (.bool about), some (.int size), some (.ref an), some (.int cell), some (.ref ah), some (.ref aw), some (.int far), x9, x10, some (.int start), some (.ref ad), some (.ref af), none]) ?_ ?_
  · intro K j1 j2 j3
    dsimp only [wpSs, wpS, wpE, wpEs, wpT, wpTs, wpB, retVal, List.length_cons, List.length_nil, lg0, lgS, ls0, lsS, Nat.reduceAdd, bin_addI, bin_subI, bin_mulI, bin_fdivI, bin_modI, bin_addS, eq_II, eq_SS, eq_NN, eq_NI, eq_NS, eq_IN, eq_SN, eq_BB, cmp_eq, cmp_ne, cmp_isN, cmp_isnotN, cmp_in, cmp_notin, cmp_lt, cmp_le, cmp_gt, cmp_ge, idx_S, bi_lenS, bi_maxI, bi_minI, isN_N, isN_I, isN_S, isN_R, truth_B, it_range1, it_range2, LM.isL, app_L, Bool.not_false, Bool.not_true, reduceIte, reduceCtorEq, Bool.false_eq_true, Bool.true_eq_false, isT]
    rw [hf]
    simp only [wpSs, wpS, wpE, wpEs, wpT, wpTs, wpB, retVal, List.length_cons, List.length_nil, lg0, lgS, ls0, lsS, Nat.reduceAdd, bin_addI, bin_subI, bin_mulI, bin_fdivI, bin_modI, bin_addS, eq_II, eq_SS, eq_NN, eq_NI, eq_NS, eq_IN, eq_SN, eq_BB, cmp_eq, cmp_ne, cmp_isN, cmp_isnotN, cmp_in, cmp_notin, cmp_lt, cmp_le, cmp_gt, cmp_ge, idx_S, bi_lenS, bi_maxI, bi_minI, isN_N, isN_I, isN_S, isN_R, truth_B, it_range1, it_range2, LM.isL, app_L, Bool.not_false, Bool.not_true, reduceIte, reduceCtorEq, Bool.false_eq_true, Bool.true_eq_false]
    refine spec_due hD hw hh hvs hes s0 s1 (by omega) fun a μ' ext _ ha => ?_
    refine eq_flat (ext _ _ hf) ha flatR ?_
    simp only [wpSs, wpS, wpE, wpEs, wpT, wpTs, wpB, retVal, List.length_cons, List.length_nil, lg0, lgS, ls0, lsS, Nat.reduceAdd, bin_addI, bin_subI, bin_mulI, bin_fdivI, bin_modI, bin_addS, eq_II, eq_SS, eq_NN, eq_NI, eq_NS, eq_IN, eq_SN, eq_BB, cmp_eq, cmp_ne, cmp_isN, cmp_isnotN, cmp_in, cmp_notin, cmp_lt, cmp_le, cmp_gt, cmp_ge, idx_S, bi_lenS, bi_maxI, bi_minI, isN_N, isN_I, isN_S, isN_R, truth_B, it_range1, it_range2, LM.isL, app_L, Bool.not_false, Bool.not_true, reduceIte, reduceCtorEq, Bool.false_eq_true, Bool.true_eq_false]
    exact j1 _ _ ⟨ext _ _ hh, ext _ _ hw, ext _ _ h0, ext _ _ h1, ext _ _ hd, ext _ _ hf, rfl⟩
  clear hh hw h0 h1 hd hf μ
  rintro env' μ ⟨hh, hw, h0, h1, hd, hf, rfl⟩
  refine seq_cut (J := fun env' μ' => ∃ x14, μ = μ' ∧ env' = [some (.ref l), some (.int many), some (.bool about), some (.int size), some (.ref an), some (.int cell), some (.ref ah), some (.ref aw), some (.int far), x9, x10, some (.int start), some (.ref ad), some (.ref af), x14]) ?_ ?_
  · intro K j1 j2 j3
    rw [wpS]
    dsimp only [wpE, wpEs, lg0, lgS]
    rw [it_list hf]
    refine forLoop_inv (fun i env' μ' => ∃ x14, μ = μ' ∧ env' = [some (.ref l), some (.int many), some (.bool about), some (.int size), some (.ref an), some (.int cell), some (.ref ah), some (.ref aw), some (.int far), x9, x10, some (.int start), some (.ref ad), some (.ref af), x14]) ⟨none, rfl, rfl⟩ hf ?_ ?_
    · rintro i v env _ K' hv ⟨x14, rfl, rfl⟩ lv k1 k2 k3
      obtain ⟨o, _, rfl⟩ := List.mem_map.mp (List.mem_of_getElem? hv)
      dsimp only [bindT, wpSs, wpS, wpE, wpEs, wpT, wpTs, wpB, retVal, List.length_cons, List.length_nil, lg0, lgS, ls0, lsS, Nat.reduceAdd, bin_addI, bin_subI, bin_mulI, bin_fdivI, bin_modI, bin_addS, eq_II, eq_SS, eq_NN, eq_NI, eq_NS, eq_IN, eq_SN, eq_BB, cmp_eq, cmp_ne, cmp_isN, cmp_isnotN, cmp_in, cmp_notin, cmp_lt, cmp_le, cmp_gt, cmp_ge, idx_S, bi_lenS, bi_maxI, bi_minI, isN_N, isN_I, isN_S, isN_R, truth_B, it_range1, it_range2, LM.isL, app_L, Bool.not_false, Bool.not_true]
      refine spec_whole hW ?_
      dsimp only [wpSs, wpS, wpE, wpEs, wpT, wpTs, wpB, retVal, List.length_cons, List.length_nil, lg0, lgS, ls0, lsS, Nat.reduceAdd, bin_addI, bin_subI, bin_mulI, bin_fdivI, bin_modI, bin_addS, eq_II, eq_SS, eq_NN, eq_NI, eq_NS, eq_IN, eq_SN, eq_BB, cmp_eq, cmp_ne, cmp_isN, cmp_isnotN, cmp_in, cmp_notin, cmp_lt, cmp_le, cmp_gt, cmp_ge, idx_S, bi_lenS, bi_maxI, bi_minI, isN_N, isN_I, isN_S, isN_R, truth_B, it_range1, it_range2, LM.isL, app_L, Bool.not_false, Bool.not_true]
      exact k1 _ _ ⟨_, rfl, rfl⟩ lv
    · rintro env' _ ⟨x14, rfl, rfl⟩ _
      exact j1 _ _ ⟨x14, rfl, rfl⟩
  rintro env' _ ⟨x14, rfl, rfl⟩
  dsimp only [wpSs, wpS, wpE, wpEs, wpT, wpTs, wpB, retVal, List.length_cons, List.length_nil, lg0, lgS, ls0, lsS, Nat.reduceAdd, bin_addI, bin_subI, bin_mulI, bin_fdivI, bin_modI, bin_addS, eq_II, eq_SS, eq_NN, eq_NI, eq_NS, eq_IN, eq_SN, eq_BB, cmp_eq, cmp_ne, cmp_isN, cmp_isnotN, cmp_in, cmp_notin, cmp_lt, cmp_le, cmp_gt, cmp_ge, idx_S, bi_lenS, bi_maxI, bi_minI, isN_N, isN_I, isN_S, isN_R, truth_B, it_range1, it_range2, LM.isL, app_L, Bool.not_false, Bool.not_true, reduceIte, reduceCtorEq, Bool.false_eq_true, Bool.true_eq_false]
  rw [idx_L hd]
  refine ⟨.ref a0, rfl, ?_⟩
  refine eq_flat h0 hw (fun v hv => ?_) ?_
  · rcases hvs.2 v hv with rfl | ⟨x, _, rfl⟩ <;> rfl
  simp only [wpSs, wpS, wpE, wpEs, wpT, wpTs, wpB, retVal, List.length_cons, List.length_nil, lg0, lgS, ls0, lsS, Nat.reduceAdd, bin_addI, bin_subI, bin_mulI, bin_fdivI, bin_modI, bin_addS, eq_II, eq_SS, eq_NN, eq_NI, eq_NS, eq_IN, eq_SN, eq_BB, cmp_eq, cmp_ne, cmp_isN, cmp_isnotN, cmp_in, cmp_notin, cmp_lt, cmp_le, cmp_gt, cmp_ge, idx_S, bi_lenS, bi_maxI, bi_minI, isN_N, isN_I, isN_S, isN_R, truth_B, it_range1, it_range2, LM.isL, app_L, Bool.not_false, Bool.not_true, reduceIte, reduceCtorEq, Bool.false_eq_true, Bool.true_eq_false]
  rw [idx_L hd]
  refine ⟨.ref a1, rfl, ?_⟩
  refine eq_dict h1 hh (fun p hp => ?_) rfl
  rcases hes.2 p hp with e | ⟨j, _, _, e⟩ <;> rw [e] <;> rfl
end
end Mine

-- part T01
namespace Mine
open PySem
def tb01 : List (Str × FD) := [(Str.ofString "ring_from", f_ring_from), (Str.ofString "_law_whole", f__law_whole), (Str.ofString "_law_cell_at", f__law_cell_at), (Str.ofString "_law_mixed", f__law_mixed), (Str.ofString "_law_text", f__law_text), (Str.ofString "_law_changed", f__law_changed), (Str.ofString "_law_names", f__law_names), (Str.ofString "_law_held", f__law_held), (Str.ofString "_law_due", f__law_due), (Str.ofString "law", f_law)]
theorem sup01 : supAll tb01 = true := by decide +kernel
theorem law01f (l : Addr) (ns : List Int) : callN (progOf tb01) 4 (.fn (Str.ofString "law")) [.ref l] (mu0 l ns) (fun v _ => v = .bool true) (fun _ _ => False) :=
  law01 ⟨rfl, rfl, rfl, rfl, rfl⟩ rfl rfl rfl rfl rfl l ns _ (by simp [mu0])
end Mine
open PySem PySem.W PyProof.Rows
set_option maxRecDepth 100000 in
set_option maxHeartbeats 8000000 in
theorem PySem.Challenge.cw_uf050021_01_holds : PySem.Challenge.rw_uf050021_01.Holds := by
  w_on; o_law; o_head Hook.none; (case hw => w_witness2)
  intro w s₀ s₁ mg mb G Y fa o pm cd doc dV kV ho hd hcd hD hmg hg args vals as hpre hlay hrd hwl hlo
  refine Ground.open G ?_
  intro T B D TE TW
  wrow_args hpre hlay hrd hwl hlo
  refine wpAny_mono (Mine.law_top (n := 4) (tb := Mine.tb01) T (by decide) (by decide +kernel) (by decide +kernel) Mine.sup01 hmg (by assumption) (by assumption) (by omega) (Mine.law01f _ _)) (fun v s' hv => ?_) (fun _ _ hx => hx)
  obtain ⟨rfl, hk, hos, hgs⟩ := hv
  refine GoodW.toG ⟨.inl ⟨_, _, [], rfl, raisesW_false (by wrow_none_raised), .bool true, ?_, unshared_nil⟩, hk, hos, hgs.trans hg⟩
  exact postW_of (by wrow_shape) (by wtm_val) (by str_meet; first | done | w_fin)

