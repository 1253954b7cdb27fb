import PyProof.Rows.All
import Wide.All
import OpenK.AllK
import Wide.FinOn
import HandS.ForMost
import HandS.More
import HandS.IsInst
import HandS.Wide
import HandS.Defaults
import PySem.Challenge.RW_trueshop_k15_equations_settled
set_option Elab.async false
set_option linter.all false
set_option maxRecDepth 100000
/-! MiniPy: data, syntax, evaluator. -/
namespace MP
open PySem L2

/-- data: trees; mut is the handle of a list that the def itself owns -/
inductive D where
  | non | bl (b : Bool) | int (i : Int) | str (x : Str)
  | tup (ds : List D) | lst (ds : List D) | own (ds : List D)
  | obj (t : Nat) (d : D)

mutual
def toPy : D → Option PyData
  | .non => some .none
  | .bl b => some (.bool b)
  | .int i => some (.int i)
  | .str x => some (.str x)
  | .tup ds => match toPys ds with | some es => some (.tuple es) | none => none
  | .lst ds => match toPys ds with | some es => some (.list es) | none => none
  | .own _ => none
  | .obj _ _ => none
def toPys : List D → Option (List PyData)
  | [] => some []
  | d :: ds => match toPy d, toPys ds with | some e, some es => some (e :: es) | _, _ => none
end
/-- an owned list as it stands -/
def seen : D → D
  | .own ds => .lst ds
  | d => d
def isOwn : D → Bool
  | .own _ => true
  | _ => false
def eqD (a b : D) : Option Bool := match toPy (seen a), toPy (seen b) with
  | some x, some y => if SeqAt.shaped x && SeqAt.shaped y then some (PyData.eqv x y) else none
  | _, _ => none

inductive BOp where | add | sub | mul | fdiv | mod | pow
  deriving DecidableEq
inductive COp where | lt | le | gt | ge | eq | ne | is | isnot
  deriving DecidableEq
/-- builtins by name -/
inductive Pm where | len | abs | int | list | tuple | isInt | isBool | isTuple | isList | isStr
  deriving DecidableEq

mutual
inductive E where
  | slot (i : Nat) | cint (i : Int) | cbl (b : Bool) | cnon | cstr (x : Str)
  | bin (op : BOp) (a b : E) | neg (a : E)
  | cmp (op : COp) (a b : E)
  | andV (es : Es) | orV (es : Es) | notV (a : E)
  | ite (t : T) (a b : E)
  | tup (es : Es) | lst (es : Es)
  | idx (a b : E) | slc (a : E) (lo hi : O)
  | call (f : Nat) (es : Es) (dv : List Int)
  | prim (p : Pm) (es : Es)
  | comp (elt : E) (tg : List Nat) (it : It) (ts : Ts) (own : List Nat)
inductive Es where | nil | cons (e : E) (es : Es)
inductive O where | none | some (e : E)
inductive T where
  | tru (e : E) | cmp (op : COp) (a b : E) | chain (op op' : COp) (a b c : E)
  | and (ts : Ts) | or (ts : Ts) | not (t : T)
inductive Ts where | nil | cons (t : T) (ts : Ts)
inductive It where | rng1 (a : E) | rng2 (a b : E) | seq (e : E)
end
mutual
inductive S where
  | set (i : Nat) (e : E) | setM (i : Nat) (e : E) | unp (is : List Nat) (e : E) | par (i j : Nat) (a b : E)
  | aug (i : Nat) (op : BOp) (e : E)
  | app (i : Nat) (e : E) | setIx (i : Nat) (j e : E) | ins (i : Nat) (j e : E) | popTo (k i : Nat) (j : E)
  | popE (i : Nat)
  | ifS (t : T) (a b : Ss)
  | forS (tg : List Nat) (it : It) (body : Ss) | whileS (t : T) (body : Ss)
  | ret (e : E) | brk | cont | pass
  | frz (i : Nat) | bad
inductive Ss where | nil | cons (s : S) (ss : Ss)
end

/-- what a slot holds: nothing known; data; a list of the def's own -/
inductive SV where | non | val (d : D) | mls (ds : List D)
abbrev Rho := List SV
inductive Fl where | nx (ρ : Rho) | rt (d : D) | bk (ρ : Rho) | ct (ρ : Rho)

def line : Nat := 16777216
def mulOk (i j : Int) : Bool := decide (i.natAbs.log2 + j.natAbs.log2 < 1000000)
def binD (op : BOp) (a b : D) : Option D := match op, a, b with
  | .add, .int i, .int j => some (.int (i + j))
  | .sub, .int i, .int j => some (.int (i - j))
  | .mul, .int i, .int j => if mulOk i j then some (.int (i * j)) else none
  | .fdiv, .int i, .int j => if j = 0 then none else if decide (j.natAbs.log2 < 9000) then some (.int (i.fdiv j)) else none
  | .mod, .int i, .int j => if j = 0 then none else some (.int (i.fmod j))
  | .pow, .int i, .int j => if decide (0 ≤ j) && decide (j ≤ 1000000) && decide (i.natAbs < 2 ^ 64) then some (.int (i ^ j.toNat)) else none
  | .add, .str x, .str y => if decide (x.length + y.length ≤ line) then some (.str (x ++ y)) else none
  | .add, .tup (x :: xs), .tup ys => if decide ((x :: xs).length + ys.length ≤ line) then some (.tup (x :: xs ++ ys)) else none
  | _, _, _ => none
/-- a list from two -/
def catD (a b : D) : Option (List D) := match seen a, seen b with
  | .lst xs, .lst ys => if decide (xs.length + ys.length ≤ line) then some (xs ++ ys) else none
  | _, _ => none
def cmpD (op : COp) (a b : D) : Option Bool := match op with
  | .eq => eqD a b
  | .ne => (eqD a b).map (!·)
  | .is => match b with | .non => (match a with | .non => some true | .own _ => none | _ => some false) | _ => none
  | .isnot => match b with | .non => (match a with | .non => some false | .own _ => none | _ => some true) | _ => none
  | .lt => match a, b with | .int i, .int j => some (decide (i < j)) | _, _ => none
  | .le => match a, b with | .int i, .int j => some (decide (i ≤ j)) | _, _ => none
  | .gt => match a, b with | .int i, .int j => some (decide (j < i)) | _, _ => none
  | .ge => match a, b with | .int i, .int j => some (decide (j ≤ i)) | _, _ => none
def truD : D → Option Bool
  | .non => some false
  | .bl b => some b
  | .int i => some (i != 0)
  | .str x => if decide (x.length ≤ line) then some ((x.length : Int) != 0) else none
  | .lst ds => some !ds.isEmpty
  | .own ds => some !ds.isEmpty
  | .tup ds => some !ds.isEmpty
  | .obj _ _ => none
def ixD (a b : D) : Option D := match a, b with
  | .lst ds, .int i => atI ds i
  | .own ds, .int i => atI ds i
  | .tup ds, .int i => atI ds i
  | .str x, .int i => if decide (x.length ≤ line) then (atI x.cps.toList i).map (fun c => .str ⟨#[c]⟩) else none
  | _, _ => none
def cutD {α : Type} (xs : List α) (lo hi : Option Int) : List α :=
  (xs.drop (HT.sIx xs.length 0 lo)).take (HT.sIx xs.length xs.length hi - HT.sIx xs.length 0 lo)
def bl? : D → Option Bool | .bl b => some b | _ => none
def lst? : D → Option (List D) | .lst ds => some ds | .tup ds => some ds | .own ds => some ds | _ => none
def int? : D → Option Int | .int i => some i | _ => none
def pure? (d : D) : Option D := match d with | .own _ => none | d => some d
/-- how a list is made by a builtin: list(x) -/
def primD (p : Pm) (ds : List D) : Option D := match p, ds with
  | .len, [.str x] => if decide (x.length ≤ line) then some (.int (x.length : Int)) else none
  | .len, [.lst xs] => some (.int (xs.length : Int))
  | .len, [.tup xs] => some (.int (xs.length : Int))
  | .len, [.own xs] => some (.int (xs.length : Int))
  | .abs, [.int i] => some (.int (if i < 0 then -i else i))
  | .int, [.int i] => some (.int i)
  | .int, [.bl b] => some (.int (if b then 1 else 0))
  | .tuple, [.lst xs] => some (.tup xs)
  | .tuple, [.own xs] => some (.tup xs)
  | .tuple, [.tup xs] => some (.tup xs)
  | .isInt, [.int _] => some (.bl true) | .isInt, [.bl _] => some (.bl true) | .isInt, [.non] => some (.bl false) | .isInt, [.str _] => some (.bl false)
  | .isInt, [.tup _] => some (.bl false) | .isInt, [.lst _] => some (.bl false)
  | .isBool, [.int _] => some (.bl false) | .isBool, [.bl _] => some (.bl true) | .isBool, [.non] => some (.bl false) | .isBool, [.str _] => some (.bl false)
  | .isBool, [.tup _] => some (.bl false) | .isBool, [.lst _] => some (.bl false)
  | .isTuple, [.int _] => some (.bl false) | .isTuple, [.bl _] => some (.bl false) | .isTuple, [.non] => some (.bl false) | .isTuple, [.str _] => some (.bl false)
  | .isTuple, [.tup _] => some (.bl true) | .isTuple, [.lst _] => some (.bl false)
  | .isList, [.int _] => some (.bl false) | .isList, [.bl _] => some (.bl false) | .isList, [.non] => some (.bl false) | .isList, [.str _] => some (.bl false)
  | .isList, [.tup _] => some (.bl false) | .isList, [.lst _] => some (.bl true)
  | .isStr, [.int _] => some (.bl false) | .isStr, [.bl _] => some (.bl false) | .isStr, [.non] => some (.bl false) | .isStr, [.str _] => some (.bl true)
  | .isStr, [.tup _] => some (.bl false) | .isStr, [.lst _] => some (.bl false)
  | _, _ => none
def setTg : List Nat → D → Rho → Option Rho
  | [j], d, ρ => some (ρ.set j (.val d))
  | js, .tup ds, ρ => if decide (ds.length = js.length) then some ((js.zip ds).foldl (fun r p => r.set p.1 (.val p.2)) ρ) else none
  | _, _, _ => none
def wipeR (ρ : Rho) (own : List Nat) : Rho := own.foldr (fun j r => r.set j .non) ρ
def compM (f : D → Option (Option D)) : List D → Option (List D)
  | [] => some []
  | d :: ds => match f d with
    | none => none
    | some o => match compM f ds with
      | none => none
      | some es => some (match o with | some e => e :: es | none => es)
def rng (lo hi : Int) : List D := (List.range (hi - lo).toNat).map fun (i : Nat) => .int (lo + (i : Int))
def okRng (i : Int) : Bool := decide (-(2 ^ 62) ≤ i) && decide (i < 2 ^ 62)
def forM (f : D → Rho → Option Fl) : List D → Rho → Option Fl
  | [], ρ => some (.nx ρ)
  | d :: ds, ρ => match f d ρ with
    | some (.nx ρ') => forM f ds ρ'
    | some (.ct ρ') => forM f ds ρ'
    | some (.bk ρ') => some (.nx ρ')
    | some (.rt d) => some (.rt d)
    | none => none
def whileM (t : Rho → Option Bool) (f : Rho → Option Fl) : Nat → Rho → Option Fl
  | 0, _ => none
  | n + 1, ρ => match t ρ with
    | none => none
    | some false => some (.nx ρ)
    | some true => match f ρ with
      | some (.nx ρ') => whileM t f n ρ'
      | some (.ct ρ') => whileM t f n ρ'
      | some (.bk ρ') => some (.nx ρ')
      | some (.rt d) => some (.rt d)
      | none => none

section
variable (Φ : Nat → List D → Option D)
mutual
def evE : E → Rho → Option D
  | .slot i, ρ => match ρ[i]? with
    | some (.val d) => some d
    | some (.mls ds) => some (.own ds)
    | _ => none
  | .cint i, _ => some (.int i)
  | .cbl b, _ => some (.bl b)
  | .cnon, _ => some .non
  | .cstr x, _ => some (.str x)
  | .bin op a b, ρ => match evE a ρ, evE b ρ with
    | some x, some y => (match op, catD x y with
      | .add, some ds => some (.lst ds)
      | op, _ => binD op x y)
    | _, _ => none
  | .neg a, ρ => match evE a ρ with | some (.int i) => some (.int (-i)) | _ => none
  | .cmp op a b, ρ => match evE a ρ, evE b ρ with
    | some x, some y => (cmpD op x y).map .bl
    | _, _ => none
  | .andV es, ρ => evAnd es ρ
  | .orV es, ρ => evOr es ρ
  | .notV a, ρ => match evE a ρ with | some (.bl b) => some (.bl !b) | _ => none
  | .ite t a b, ρ => match evT t ρ with | some true => (evE a ρ).bind pure? | some false => (evE b ρ).bind pure? | none => none
  | .tup es, ρ => match evEs es ρ with | some ds => if decide (ds.length ≤ line) then some (.tup ds) else none | none => none
  | .lst es, ρ => match evEs es ρ with | some ds => if decide (ds.length ≤ line) then some (.lst ds) else none | none => none
  | .idx a b, ρ => match evE a ρ, evE b ρ with | some x, some y => ixD x y | _, _ => none
  | .slc a lo hi, ρ => match evE a ρ, evO lo ρ, evO hi ρ with
    | some (.lst ds), some l, some h => some (.lst (cutD ds l h))
    | some (.own ds), some l, some h => some (.lst (cutD ds l h))
    | _, _, _ => none
  | .call f es dv, ρ => match evEs es ρ with | some ds => Φ f (ds ++ dv.map .int) | none => none
  | .prim p es, ρ => match evPs es ρ with
    | some ds => (match p, ds with
      | .list, [d] => (match lst? d with | some xs => some (.lst xs) | none => none)
      | p, ds => primD p ds)
    | none => none
  | .comp elt tg it ts own, ρ => match evIt it ρ with
    | some ds => (match compM (fun d => match setTg tg d (wipeR ρ own) with
        | some ρ' => (match evTs ts ρ' with
          | some true => (match (evE elt ρ').bind pure? with | some e => some (some e) | none => none)
          | some false => some none
          | none => none)
        | none => none) ds with
      | some es => if decide (es.length ≤ line) then some (.lst es) else none
      | none => none)
    | none => none
/-- arguments, items of displays: no owned list is let out -/
def evEs : Es → Rho → Option (List D)
  | .nil, _ => some []
  | .cons e es, ρ => match (evE e ρ).bind pure?, evEs es ρ with | some d, some ds => some (d :: ds) | _, _ => none
/-- arguments of builtins, that look at a list only -/
def evPs : Es → Rho → Option (List D)
  | .nil, _ => some []
  | .cons e es, ρ => match evE e ρ, evPs es ρ with | some d, some ds => some (d :: ds) | _, _ => none
def evAnd : Es → Rho → Option D
  | .nil, _ => none
  | .cons e .nil, ρ => (evE e ρ).bind pure?
  | .cons e es, ρ => match evE e ρ with | some (.bl true) => evAnd es ρ | some (.bl false) => some (.bl false) | _ => none
def evOr : Es → Rho → Option D
  | .nil, _ => none
  | .cons e .nil, ρ => (evE e ρ).bind pure?
  | .cons e es, ρ => match evE e ρ with | some (.bl false) => evOr es ρ | some (.bl true) => some (.bl true) | _ => none
def evO : O → Rho → Option (Option Int)
  | .none, _ => some none
  | .some e, ρ => match evE e ρ with | some (.int i) => some (some i) | _ => none
def evT : T → Rho → Option Bool
  | .tru e, ρ => match evE e ρ with | some d => truD d | none => none
  | .cmp op a b, ρ => match evE a ρ, evE b ρ with | some x, some y => cmpD op x y | _, _ => none
  | .chain op op' a b c, ρ => match evE a ρ, evE b ρ with
    | some x, some y => (match isOwn x || isOwn y, cmpD op x y with
      | false, some true => (match evE c ρ with | some z => cmpD op' y z | none => none)
      | false, some false => some false
      | _, _ => none)
    | _, _ => none
  | .and ts, ρ => evAll ts ρ
  | .or ts, ρ => evAny ts ρ
  | .not t, ρ => (evT t ρ).map (!·)
def evAll : Ts → Rho → Option Bool
  | .nil, _ => some true
  | .cons t ts, ρ => match evT t ρ with | some true => evAll ts ρ | some false => some false | none => none
def evAny : Ts → Rho → Option Bool
  | .nil, _ => some false
  | .cons t ts, ρ => match evT t ρ with | some false => evAny ts ρ | some true => some true | none => none
/-- the tests of a clause: one at most -/
def evTs : Ts → Rho → Option Bool
  | .nil, _ => some true
  | .cons t _, ρ => evT t ρ
def evIt : It → Rho → Option (List D)
  | .rng1 a, ρ => match evE a ρ with | some (.int j) => if okRng j then some (rng 0 j) else none | _ => none
  | .rng2 a b, ρ => match evE a ρ, evE b ρ with | some (.int i), some (.int j) => if okRng i && okRng j then some (rng i j) else none | _, _ => none
  | .seq e, ρ => match evE e ρ with | some d => lst? d | none => none
end
/-- forms whose value is a new list -/
def fresh : E → Bool
  | .lst _ | .comp .. | .slc .. | .bin .add _ _ | .prim .list _ => true
  | _ => false
/-- what a for walks: no list of the def's own -/
def evItF (it : It) (ρ : Rho) : Option (List D) := match it with
  | .seq e => (match (evE Φ e ρ).bind pure? with | some d => lst? d | none => none)
  | it => evIt Φ it ρ
variable (wf : Nat)
mutual
def evS : S → Rho → Option Fl
  | .set i e, ρ => match (evE Φ e ρ).bind pure? with | some d => some (.nx (ρ.set i (.val d))) | none => none
  | .setM i e, ρ => if fresh e then (match evE Φ e ρ with | some (.lst ds) => some (.nx (ρ.set i (.mls ds))) | _ => none) else none
  | .unp is e, ρ => match evE Φ e ρ with | some d => (match is with | _ :: _ :: _ => (setTg is d ρ).map .nx | _ => none) | none => none
  | .par i j a b, ρ => match (evE Φ a ρ).bind pure?, (evE Φ b ρ).bind pure? with
    | some x, some y => some (.nx ((ρ.set i (.val x)).set j (.val y)))
    | _, _ => none
  | .aug i op e, ρ => match ρ[i]?, evE Φ e ρ with
    | some (.val (.int x)), some (.int y) => (match op with
      | .add => some (.nx (ρ.set i (.val (.int (x + y)))))
      | .sub => some (.nx (ρ.set i (.val (.int (x - y)))))
      | _ => none)
    | _, _ => none
  | .app i e, ρ => match ρ[i]?, (evE Φ e ρ).bind pure? with
    | some (.mls ds), some d => if decide (ds.length < line) then some (.nx (ρ.set i (.mls (ds ++ [d])))) else none
    | _, _ => none
  | .setIx i j e, ρ => match ρ[i]?, evE Φ j ρ, (evE Φ e ρ).bind pure? with
    | some (.mls ds), some (.int k), some d => (match ixN ds.length k with | some n => some (.nx (ρ.set i (.mls (ds.set n d)))) | none => none)
    | _, _, _ => none
  | .ins i j e, ρ => match ρ[i]?, evE Φ j ρ, (evE Φ e ρ).bind pure? with
    | some (.mls ds), some (.int k), some d => if decide (0 ≤ k) && decide (k ≤ (ds.length : Int)) && decide (ds.length < line) then some (.nx (ρ.set i (.mls (ds.take k.toNat ++ d :: ds.drop k.toNat)))) else none
    | _, _, _ => none
  | .popTo k i j, ρ => match ρ[i]?, evE Φ j ρ with
    | some (.mls ds), some (.int x) => if okRng x then (match ixN ds.length x with
      | some n => (match ds[n]? with | some d => some (.nx ((ρ.set i (.mls (ds.eraseIdx n))).set k (.val d))) | none => none)
      | none => none) else none
    | _, _ => none
  | .popE i, ρ => match ρ[i]? with
    | some (.mls ds) => if ds.isEmpty then none else some (.nx (ρ.set i (.mls ds.dropLast)))
    | _ => none
  | .ifS t a b, ρ => match evT Φ t ρ with | some true => evSs a ρ | some false => evSs b ρ | none => none
  | .forS tg it body, ρ => match evItF Φ it ρ with
    | some ds => forM (fun d ρ => match setTg tg d ρ with | some ρ' => evSs body ρ' | none => none) ds ρ
    | none => none
  | .whileS t body, ρ => whileM (evT Φ t) (evSs body) wf ρ
  | .ret e, ρ => match (evE Φ e ρ).bind pure? with | some d => some (.rt d) | none => none
  | .brk, ρ => some (.bk ρ)
  | .cont, ρ => some (.ct ρ)
  | .pass, ρ => some (.nx ρ)
  | .frz i, ρ => match ρ[i]? with | some (.mls ds) => some (.nx (ρ.set i (.val (.lst ds)))) | _ => none
  | .bad, _ => none
def evSs : Ss → Rho → Option Fl
  | .nil, ρ => some (.nx ρ)
  | .cons s ss, ρ => match evS s ρ with
    | some (.nx ρ') => evSs ss ρ'
    | r => r
end
end

/-- a def: parameters, slots, body -/
structure Fd where
  np : Nat
  ns : Nat
  body : Ss
def start0 (fd : Fd) (ds : List D) : Rho := ds.map .val ++ List.replicate (fd.ns - fd.np) .non
def run (tab : List Fd) (wf : Nat) : Nat → Nat → List D → Option D
  | 0, _, _ => none
  | n + 1, f, ds => match tab[f]? with
    | some fd => if decide (ds.length = fd.np) then (match evSs (run tab wf n) wf fd.body (start0 fd ds) with
      | some (.rt d) => some d
      | some (.nx _) => some .non
      | _ => none) else none
    | none => none
end MP

/-! MiniPy: the evaluator, for plain proofs. -/
namespace MP
open PySem L2
def bodyD (Φ : Nat → List D → Option D) (wf : Nat) (fd : Fd) (ds : List D) : Option D :=
  if decide (ds.length = fd.np) then (match evSs Φ wf fd.body (start0 fd ds) with
      | some (.rt d) => some d
      | some (.nx _) => some .non
      | _ => none) else none
theorem run_eq {tab : List Fd} {wf n f : Nat} {fd : Fd} (h : tab[f]? = some fd) : run tab wf (n + 1) f = bodyD (run tab wf n) wf fd := by
  funext ds
  show (match tab[f]? with | some fd => _ | none => none) = _
  rw [h]
  rfl
section
variable {Φ : Nat → List D → Option D} {wf : Nat} {ρ : Rho}
/-- a value that may be let out -/
@[simp] theorem pure_int (i : Int) : pure? (.int i) = some (.int i) := id rfl
@[simp] theorem pure_bl (b : Bool) : pure? (.bl b) = some (.bl b) := id rfl
@[simp] theorem pure_non : pure? .non = some .non := id rfl
@[simp] theorem pure_str (x : Str) : pure? (.str x) = some (.str x) := id rfl
@[simp] theorem pure_tup (ds : List D) : pure? (.tup ds) = some (.tup ds) := id rfl
@[simp] theorem pure_lst (ds : List D) : pure? (.lst ds) = some (.lst ds) := id rfl
@[simp] theorem ev_slot (i : Nat) : evE Φ (.slot i) ρ = (match ρ[i]? with | some (.val d) => some d | some (.mls ds) => some (.own ds) | _ => none) := id rfl
@[simp] theorem ev_cint (i : Int) : evE Φ (.cint i) ρ = some (.int i) := id rfl
@[simp] theorem ev_cbl (b : Bool) : evE Φ (.cbl b) ρ = some (.bl b) := id rfl
@[simp] theorem ev_cnon : evE Φ .cnon ρ = some .non := id rfl
@[simp] theorem ev_cstr (x : Str) : evE Φ (.cstr x) ρ = some (.str x) := id rfl
@[simp] theorem ev_bin (op : BOp) (a b : E) : evE Φ (.bin op a b) ρ = (match evE Φ a ρ, evE Φ b ρ with
    | some x, some y => (match op, catD x y with
      | .add, some ds => some (.lst ds)
      | op, _ => binD op x y)
    | _, _ => none) := id rfl
@[simp] theorem ev_neg (a : E) : evE Φ (.neg a) ρ = (match evE Φ a ρ with | some (.int i) => some (.int (-i)) | _ => none) := id rfl
@[simp] theorem ev_cmp (op : COp) (a b : E) : evE Φ (.cmp op a b) ρ = (match evE Φ a ρ, evE Φ b ρ with | some x, some y => (cmpD op x y).map .bl | _, _ => none) := id rfl
@[simp] theorem ev_andV (es : Es) : evE Φ (.andV es) ρ = evAnd Φ es ρ := id rfl
@[simp] theorem ev_orV (es : Es) : evE Φ (.orV es) ρ = evOr Φ es ρ := id rfl
@[simp] theorem ev_notV (a : E) : evE Φ (.notV a) ρ = (match evE Φ a ρ with | some (.bl b) => some (.bl !b) | _ => none) := id rfl
@[simp] theorem ev_ite (t : T) (a b : E) : evE Φ (.ite t a b) ρ = (match evT Φ t ρ with | some true => (evE Φ a ρ).bind pure? | some false => (evE Φ b ρ).bind pure? | none => none) := id rfl
@[simp] theorem ev_tup (es : Es) : evE Φ (.tup es) ρ = (match evEs Φ es ρ with | some ds => if decide (ds.length ≤ line) then some (.tup ds) else none | none => none) := id rfl
@[simp] theorem ev_lst (es : Es) : evE Φ (.lst es) ρ = (match evEs Φ es ρ with | some ds => if decide (ds.length ≤ line) then some (.lst ds) else none | none => none) := id rfl
@[simp] theorem ev_idx (a b : E) : evE Φ (.idx a b) ρ = (match evE Φ a ρ, evE Φ b ρ with | some x, some y => ixD x y | _, _ => none) := id rfl
@[simp] theorem ev_slc (a : E) (lo hi : O) : evE Φ (.slc a lo hi) ρ = (match evE Φ a ρ, evO Φ lo ρ, evO Φ hi ρ with
    | some (.lst ds), some l, some h => some (.lst (cutD ds l h))
    | some (.own ds), some l, some h => some (.lst (cutD ds l h))
    | _, _, _ => none) := id rfl
@[simp] theorem ev_call (f : Nat) (es : Es) (dv : List Int) : evE Φ (.call f es dv) ρ = (match evEs Φ es ρ with | some ds => Φ f (ds ++ dv.map .int) | none => none) := id rfl
@[simp] theorem ev_prim (p : Pm) (es : Es) : evE Φ (.prim p es) ρ = (match evPs Φ es ρ with
    | some ds => (match p, ds with
      | .list, [d] => (match lst? d with | some xs => some (.lst xs) | none => none)
      | p, ds => primD p ds)
    | none => none) := id rfl
/-- one turn of a comprehension's block -/
def stepC (Φ : Nat → List D → Option D) (elt : E) (tg : List Nat) (ts : Ts) (own : List Nat) (ρ : Rho) (d : D) : Option (Option D) := match setTg tg d (wipeR ρ own) with
  | some ρ' => (match evTs Φ ts ρ' with
    | some true => (match (evE Φ elt ρ').bind pure? with | some e => some (some e) | none => none)
    | some false => some none
    | none => none)
  | none => none
theorem ev_comp (elt : E) (tg : List Nat) (it : It) (ts : Ts) (own : List Nat) : evE Φ (.comp elt tg it ts own) ρ = (match evIt Φ it ρ with
    | some ds => (match compM (stepC Φ elt tg ts own ρ) ds with
      | some es => if decide (es.length ≤ line) then some (.lst es) else none
      | none => none)
    | none => none) := id rfl
@[simp] theorem evEs_nil : evEs Φ .nil ρ = some [] := id rfl
@[simp] theorem evEs_cons (e : E) (es : Es) : evEs Φ (.cons e es) ρ = (match (evE Φ e ρ).bind pure?, evEs Φ es ρ with | some d, some ds => some (d :: ds) | _, _ => none) := id rfl
@[simp] theorem evPs_nil : evPs Φ .nil ρ = some [] := id rfl
@[simp] theorem evPs_cons (e : E) (es : Es) : evPs Φ (.cons e es) ρ = (match evE Φ e ρ, evPs Φ es ρ with | some d, some ds => some (d :: ds) | _, _ => none) := id rfl
@[simp] theorem evAnd_one (e : E) : evAnd Φ (.cons e .nil) ρ = (evE Φ e ρ).bind pure? := id rfl
@[simp] theorem evAnd_cons (e e' : E) (es : Es) : evAnd Φ (.cons e (.cons e' es)) ρ = (match evE Φ e ρ with | some (.bl true) => evAnd Φ (.cons e' es) ρ | some (.bl false) => some (.bl false) | _ => none) := id rfl
@[simp] theorem evOr_one (e : E) : evOr Φ (.cons e .nil) ρ = (evE Φ e ρ).bind pure? := id rfl
@[simp] theorem evOr_cons (e e' : E) (es : Es) : evOr Φ (.cons e (.cons e' es)) ρ = (match evE Φ e ρ with | some (.bl false) => evOr Φ (.cons e' es) ρ | some (.bl true) => some (.bl true) | _ => none) := id rfl
@[simp] theorem evO_none : evO Φ .none ρ = some none := id rfl
@[simp] theorem evO_some (e : E) : evO Φ (.some e) ρ = (match evE Φ e ρ with | some (.int i) => some (some i) | _ => none) := id rfl
@[simp] theorem evT_tru (e : E) : evT Φ (.tru e) ρ = (match evE Φ e ρ with | some d => truD d | none => none) := id rfl
@[simp] theorem evT_cmp (op : COp) (a b : E) : evT Φ (.cmp op a b) ρ = (match evE Φ a ρ, evE Φ b ρ with | some x, some y => cmpD op x y | _, _ => none) := id rfl
@[simp] theorem evT_chain (op op' : COp) (a b c : E) : evT Φ (.chain op op' a b c) ρ = (match evE Φ a ρ, evE Φ b ρ with
    | some x, some y => (match isOwn x || isOwn y, cmpD op x y with
      | false, some true => (match evE Φ c ρ with | some z => cmpD op' y z | none => none)
      | false, some false => some false
      | _, _ => none)
    | _, _ => none) := id rfl
@[simp] theorem evT_and (ts : Ts) : evT Φ (.and ts) ρ = evAll Φ ts ρ := id rfl
@[simp] theorem evT_or (ts : Ts) : evT Φ (.or ts) ρ = evAny Φ ts ρ := id rfl
@[simp] theorem evT_not (t : T) : evT Φ (.not t) ρ = (evT Φ t ρ).map (!·) := id rfl
@[simp] theorem evAll_nil : evAll Φ .nil ρ = some true := id rfl
@[simp] theorem evAll_cons (t : T) (ts : Ts) : evAll Φ (.cons t ts) ρ = (match evT Φ t ρ with | some true => evAll Φ ts ρ | some false => some false | none => none) := id rfl
@[simp] theorem evAny_nil : evAny Φ .nil ρ = some false := id rfl
@[simp] theorem evAny_cons (t : T) (ts : Ts) : evAny Φ (.cons t ts) ρ = (match evT Φ t ρ with | some false => evAny Φ ts ρ | some true => some true | none => none) := id rfl
@[simp] theorem evTs_nil : evTs Φ .nil ρ = some true := id rfl
@[simp] theorem evTs_cons (t : T) (ts : Ts) : evTs Φ (.cons t ts) ρ = evT Φ t ρ := id rfl
@[simp] theorem evIt_rng1 (a : E) : evIt Φ (.rng1 a) ρ = (match evE Φ a ρ with | some (.int j) => if okRng j then some (rng 0 j) else none | _ => none) := id rfl
@[simp] theorem evIt_rng2 (a b : E) : evIt Φ (.rng2 a b) ρ = (match evE Φ a ρ, evE Φ b ρ with | some (.int i), some (.int j) => if okRng i && okRng j then some (rng i j) else none | _, _ => none) := id rfl
@[simp] theorem evIt_seq (e : E) : evIt Φ (.seq e) ρ = (match evE Φ e ρ with | some d => lst? d | none => none) := id rfl
@[simp] theorem evItF_rng1 (a : E) : evItF Φ (.rng1 a) ρ = (match evE Φ a ρ with | some (.int j) => if okRng j then some (rng 0 j) else none | _ => none) := id rfl
@[simp] theorem evItF_rng2 (a b : E) : evItF Φ (.rng2 a b) ρ = (match evE Φ a ρ, evE Φ b ρ with | some (.int i), some (.int j) => if okRng i && okRng j then some (rng i j) else none | _, _ => none) := id rfl
@[simp] theorem evItF_seq (e : E) : evItF Φ (.seq e) ρ = (match (evE Φ e ρ).bind pure? with | some d => lst? d | none => none) := id rfl
/-! statements, but loops -/
@[simp] theorem evSs_nil : evSs Φ wf .nil ρ = some (.nx ρ) := id rfl
@[simp] theorem evSs_cons (s : S) (ss : Ss) : evSs Φ wf (.cons s ss) ρ = (match evS Φ wf s ρ with | some (.nx ρ') => evSs Φ wf ss ρ' | r => r) := id rfl
@[simp] theorem evS_set (i : Nat) (e : E) : evS Φ wf (.set i e) ρ = (match (evE Φ e ρ).bind pure? with | some d => some (.nx (ρ.set i (.val d))) | none => none) := id rfl
@[simp] theorem evS_setM (i : Nat) (e : E) : evS Φ wf (.setM i e) ρ = (if fresh e then (match evE Φ e ρ with | some (.lst ds) => some (.nx (ρ.set i (.mls ds))) | _ => none) else none) := id rfl
@[simp] theorem evS_unp (is : List Nat) (e : E) : evS Φ wf (.unp is e) ρ = (match evE Φ e ρ with | some d => (match is with | _ :: _ :: _ => (setTg is d ρ).map .nx | _ => none) | none => none) := id rfl
@[simp] theorem evS_par (i j : Nat) (a b : E) : evS Φ wf (.par i j a b) ρ = (match (evE Φ a ρ).bind pure?, (evE Φ b ρ).bind pure? with
    | some x, some y => some (.nx ((ρ.set i (.val x)).set j (.val y)))
    | _, _ => none) := id rfl
@[simp] theorem evS_aug (i : Nat) (op : BOp) (e : E) : evS Φ wf (.aug i op e) ρ = (match ρ[i]?, evE Φ e ρ with
    | some (.val (.int x)), some (.int y) => (match op with
      | .add => some (.nx (ρ.set i (.val (.int (x + y)))))
      | .sub => some (.nx (ρ.set i (.val (.int (x - y)))))
      | _ => none)
    | _, _ => none) := id rfl
@[simp] theorem evS_app (i : Nat) (e : E) : evS Φ wf (.app i e) ρ = (match ρ[i]?, (evE Φ e ρ).bind pure? with
    | some (.mls ds), some d => if decide (ds.length < line) then some (.nx (ρ.set i (.mls (ds ++ [d])))) else none
    | _, _ => none) := id rfl
@[simp] theorem evS_setIx (i : Nat) (j e : E) : evS Φ wf (.setIx i j e) ρ = (match ρ[i]?, evE Φ j ρ, (evE Φ e ρ).bind pure? with
    | some (.mls ds), some (.int k), some d => (match ixN ds.length k with | some n => some (.nx (ρ.set i (.mls (ds.set n d)))) | none => none)
    | _, _, _ => none) := id rfl
@[simp] theorem evS_ins (i : Nat) (j e : E) : evS Φ wf (.ins i j e) ρ = (match ρ[i]?, evE Φ j ρ, (evE Φ e ρ).bind pure? with
    | some (.mls ds), some (.int k), some d => if decide (0 ≤ k) && decide (k ≤ (ds.length : Int)) && decide (ds.length < line) then some (.nx (ρ.set i (.mls (ds.take k.toNat ++ d :: ds.drop k.toNat)))) else none
    | _, _, _ => none) := id rfl
@[simp] theorem evS_popTo (k i : Nat) (j : E) : evS Φ wf (.popTo k i j) ρ = (match ρ[i]?, evE Φ j ρ with
    | some (.mls ds), some (.int x) => if okRng x then (match ixN ds.length x with
      | some n => (match ds[n]? with | some d => some (.nx ((ρ.set i (.mls (ds.eraseIdx n))).set k (.val d))) | none => none)
      | none => none) else none
    | _, _ => none) := id rfl
@[simp] theorem evS_popE (i : Nat) : evS Φ wf (.popE i) ρ = (match ρ[i]? with
    | some (.mls ds) => if ds.isEmpty then none else some (.nx (ρ.set i (.mls ds.dropLast)))
    | _ => none) := id rfl
@[simp] theorem evS_if (t : T) (a b : Ss) : evS Φ wf (.ifS t a b) ρ = (match evT Φ t ρ with | some true => evSs Φ wf a ρ | some false => evSs Φ wf b ρ | none => none) := id rfl
theorem evS_for (tg : List Nat) (it : It) (body : Ss) : evS Φ wf (.forS tg it body) ρ = (match evItF Φ it ρ with
    | some ds => forM (fun d ρ => match setTg tg d ρ with | some ρ' => evSs Φ wf body ρ' | none => none) ds ρ
    | none => none) := id rfl
theorem evS_while (t : T) (body : Ss) : evS Φ wf (.whileS t body) ρ = whileM (evT Φ t) (evSs Φ wf body) wf ρ := id rfl
@[simp] theorem evS_ret (e : E) : evS Φ wf (.ret e) ρ = (match (evE Φ e ρ).bind pure? with | some d => some (.rt d) | none => none) := id rfl
@[simp] theorem evS_brk : evS Φ wf .brk ρ = some (.bk ρ) := id rfl
@[simp] theorem evS_cont : evS Φ wf .cont ρ = some (.ct ρ) := id rfl
@[simp] theorem evS_pass : evS Φ wf .pass ρ = some (.nx ρ) := id rfl
@[simp] theorem evS_frz (i : Nat) : evS Φ wf (.frz i) ρ = (match ρ[i]? with | some (.mls ds) => some (.nx (ρ.set i (.val (.lst ds)))) | _ => none) := id rfl
end
@[simp] theorem setTg_name (j : Nat) (d : D) (ρ : Rho) : setTg [j] d ρ = some (ρ.set j (.val d)) := id rfl
@[simp] theorem wipeR_one (ρ : Rho) (j : Nat) : wipeR ρ [j] = ρ.set j .non := id rfl
@[simp] theorem cat_int (i : Int) (y : D) : catD (.int i) y = none := id rfl
@[simp] theorem cat_tup (xs : List D) (y : D) : catD (.tup xs) y = none := id rfl
@[simp] theorem cat_str (x : Str) (y : D) : catD (.str x) y = none := id rfl
@[simp] theorem bin_add (i j : Int) : binD .add (.int i) (.int j) = some (.int (i + j)) := id rfl
@[simp] theorem bin_sub (i j : Int) : binD .sub (.int i) (.int j) = some (.int (i - j)) := id rfl
theorem bin_mul {i j : Int} (h : mulOk i j = true) : binD .mul (.int i) (.int j) = some (.int (i * j)) := by simp [binD, h]
theorem bin_mod {i j : Int} (h : j ≠ 0) : binD .mod (.int i) (.int j) = some (.int (i.fmod j)) := by simp [binD, h]
theorem bin_fdiv {i j : Int} (h : j ≠ 0) (h2 : j.natAbs.log2 < 9000) : binD .fdiv (.int i) (.int j) = some (.int (i.fdiv j)) := by simp [binD, h, h2]
@[simp] theorem cmp_lt (i j : Int) : cmpD .lt (.int i) (.int j) = some (decide (i < j)) := id rfl
@[simp] theorem cmp_le (i j : Int) : cmpD .le (.int i) (.int j) = some (decide (i ≤ j)) := id rfl
@[simp] theorem cmp_gt (i j : Int) : cmpD .gt (.int i) (.int j) = some (decide (j < i)) := id rfl
@[simp] theorem cmp_ge (i j : Int) : cmpD .ge (.int i) (.int j) = some (decide (j ≤ i)) := id rfl
theorem eq_int (i j : Int) : eqD (.int i) (.int j) = some (decide (i = j)) := by
  simp [eqD, seen, toPy, SeqAt.shaped, PyData.canLay0, PyData.depth, PyData.eqv, Bool.beq_eq_decide_eq]
@[simp] theorem cmp_eqI (i j : Int) : cmpD .eq (.int i) (.int j) = some (decide (i = j)) := eq_int i j
@[simp] theorem cmp_neI (i j : Int) : cmpD .ne (.int i) (.int j) = some (!decide (i = j)) := by
  simp [cmpD, eq_int]
theorem ix_lst {ds : List D} {i : Nat} {d : D} (h : ds[i]? = some d) : ixD (.lst ds) (.int (i : Int)) = some d := atI_nat h
theorem ix_own {ds : List D} {i : Nat} {d : D} (h : ds[i]? = some d) : ixD (.own ds) (.int (i : Int)) = some d := atI_nat h
theorem ix_tup' {ds : List D} {i : Nat} {d : D} (h : ds[i]? = some d) : ixD (.tup ds) (.int (i : Int)) = some d := atI_nat h
@[simp] theorem ix_t0 (d : D) (ds : List D) : ixD (.tup (d :: ds)) (.int 0) = some d := ix_tup' (i := 0) rfl
@[simp] theorem ix_t1 (c d : D) (ds : List D) : ixD (.tup (c :: d :: ds)) (.int 1) = some d := ix_tup' (i := 1) rfl
@[simp] theorem ix_t2 (b c d : D) (ds : List D) : ixD (.tup (b :: c :: d :: ds)) (.int 2) = some d := ix_tup' (i := 2) rfl
end MP

/-! MiniPy: what data stand for in the abstract heap. -/
namespace MP
open PySem PySem.Spec PyProof.Rows L2

/-- the ghost: what never changes (F), objects with a cache (B) -/
structure Gh where
  F : Hp
  B : Addr → Option (Nat × D)
structure Gh.le (g g' : Gh) : Prop where
  f : ∀ a o, g.F a = some o → g'.F a = some o
  b : ∀ a c, g.B a = some c → g'.B a = some c
theorem Gh.le.refl (g : Gh) : g.le g := ⟨fun _ _ h => h, fun _ _ h => h⟩
theorem Gh.le.trans {g g1 g2 : Gh} (a : g.le g1) (b : g1.le g2) : g.le g2 := ⟨fun x o h => b.f x o (a.f x o h), fun x o h => b.b x o (a.b x o h)⟩

section
variable (K : PySem.W.Frag) (g : Gh)
mutual
inductive Rep : V → D → Prop
  | non : Rep .non .non
  | bl (b : Bool) : Rep (.bl b) (.bl b)
  | int (i : Int) : Rep (.int i) (.int i)
  | str (x : Str) : Rep (.str x) (.str x)
  | lst {a : Addr} {xs : List V} {ds : List D} : SqL K g.F a xs → RepL xs ds → Rep (.ref a) (.lst ds)
  | tup {a : Addr} {xs : List V} {ds : List D} : SqT K g.F a xs → RepL xs ds → Rep (.ref a) (.tup ds)
  | obj {a : Addr} {t : Nat} {d : D} : g.B a = some (t, d) → Rep (.ref a) (.obj t d)
inductive RepL : List V → List D → Prop
  | nil : RepL [] []
  | cons {v : V} {vs : List V} {d : D} {ds : List D} : Rep v d → RepL vs ds → RepL (v :: vs) (d :: ds)
end
end

theorem sql_le {K : PySem.W.Frag} {F F' : Hp} {a : Addr} {xs : List V} (e : ∀ a o, F a = some o → F' a = some o) (h : SqL K F a xs) : SqL K F' a xs := by
  rcases h with (h | ⟨o, h⟩) | h
  · exact .inl (.inl (e _ _ h))
  · exact .inl (.inr ⟨o, e _ _ h⟩)
  · exact .inr h
theorem rd_le {F F' : Hp} {a : Addr} {u : HO} (e : ∀ a o, F a = some o → F' a = some o) (h : Rd F a u) : Rd F' a u := by
  rcases h with h | ⟨o, h⟩
  · exact .inl (e _ _ h)
  · exact .inr ⟨o, e _ _ h⟩
theorem sqt_le {K : PySem.W.Frag} {F F' : Hp} {a : Addr} {xs : List V} (e : ∀ a o, F a = some o → F' a = some o) (h : SqT K F a xs) : SqT K F' a xs := by
  rcases h with (h | ⟨o, h⟩) | h
  · exact .inl (.inl (e _ _ h))
  · exact .inl (.inr ⟨o, e _ _ h⟩)
  · exact .inr h

section
variable {K : PySem.W.Frag} {g g' : Gh}
mutual
theorem Rep.mono (e : g.le g') : ∀ (d : D) (v : V), Rep K g v d → Rep K g' v d
  | .non, _, h => by cases h; exact .non
  | .bl b, _, h => by cases h; exact .bl b
  | .int i, _, h => by cases h; exact .int i
  | .str x, _, h => by cases h; exact .str x
  | .lst ds, _, h => by
    cases h with
    | lst hs hl => exact .lst (sql_le e.f hs) (RepL.mono e ds _ hl)
  | .tup ds, _, h => by
    cases h with
    | tup hs hl => exact .tup (sqt_le e.f hs) (RepL.mono e ds _ hl)
  | .own ds, _, h => by cases h
  | .obj t d, _, h => by
    cases h with
    | obj hb => exact .obj (e.b _ _ hb)
theorem RepL.mono (e : g.le g') : ∀ (ds : List D) (vs : List V), RepL K g vs ds → RepL K g' vs ds
  | [], _, h => by cases h; exact .nil
  | d :: ds, _, h => by
    cases h with
    | cons h1 h2 => exact .cons (Rep.mono e d _ h1) (RepL.mono e ds _ h2)
end
theorem RepL.len {vs : List V} {ds : List D} (h : RepL K g vs ds) : vs.length = ds.length := by
  induction ds generalizing vs with
  | nil => cases h; rfl
  | cons d ds ih =>
    cases h with
    | cons h1 h2 => simp [ih h2]
theorem RepL.get {vs : List V} {ds : List D} (h : RepL K g vs ds) {i : Nat} {d : D} (e : ds[i]? = some d) : ∃ v, vs[i]? = some v ∧ Rep K g v d := by
  induction ds generalizing vs i with
  | nil => simp at e
  | cons d' ds ih =>
    cases h with
    | cons h1 h2 =>
      cases i with
      | zero =>
        simp at e
        subst e
        exact ⟨_, rfl, h1⟩
      | succ i =>
        simp at e
        obtain ⟨v, hv, r⟩ := ih h2 e
        exact ⟨v, by simpa using hv, r⟩
theorem RepL.getV {vs : List V} {ds : List D} (h : RepL K g vs ds) {i : Nat} {v : V} (e : vs[i]? = some v) : ∃ d, ds[i]? = some d ∧ Rep K g v d := by
  induction ds generalizing vs i with
  | nil => cases h; simp at e
  | cons d' ds ih =>
    cases h with
    | cons h1 h2 =>
      cases i with
      | zero =>
        simp at e
        subst e
        exact ⟨_, rfl, h1⟩
      | succ i =>
        simp at e
        obtain ⟨d, hd, r⟩ := ih h2 e
        exact ⟨d, by simpa using hd, r⟩
theorem RepL.append {xs ys : List V} {ds es : List D} (h : RepL K g xs ds) (h' : RepL K g ys es) : RepL K g (xs ++ ys) (ds ++ es) := by
  induction ds generalizing xs with
  | nil => cases h; exact h'
  | cons d ds ih =>
    cases h with
    | cons h1 h2 => exact .cons h1 (ih h2)
theorem RepL.take {xs : List V} {ds : List D} (n : Nat) (h : RepL K g xs ds) : RepL K g (xs.take n) (ds.take n) := by
  induction ds generalizing xs n with
  | nil => cases h; simp; exact .nil
  | cons d ds ih =>
    cases h with
    | cons h1 h2 =>
      cases n with
      | zero => exact .nil
      | succ n => exact .cons h1 (ih n h2)
theorem RepL.drop {xs : List V} {ds : List D} (n : Nat) (h : RepL K g xs ds) : RepL K g (xs.drop n) (ds.drop n) := by
  induction ds generalizing xs n with
  | nil => cases h; simp; exact .nil
  | cons d ds ih =>
    cases h with
    | cons h1 h2 =>
      cases n with
      | zero => exact .cons h1 h2
      | succ n => exact ih n h2
theorem RepL.set {xs : List V} {ds : List D} {v : V} {d : D} (n : Nat) (h : RepL K g xs ds) (r : Rep K g v d) : RepL K g (xs.set n v) (ds.set n d) := by
  induction ds generalizing xs n with
  | nil => cases h; simp; exact .nil
  | cons d' ds ih =>
    cases h with
    | cons h1 h2 =>
      cases n with
      | zero => exact .cons r h2
      | succ n => exact .cons h1 (ih n h2)
theorem RepL.eraseIdx {xs : List V} {ds : List D} (n : Nat) (h : RepL K g xs ds) : RepL K g (xs.eraseIdx n) (ds.eraseIdx n) := by
  induction ds generalizing xs n with
  | nil => cases h; simp; exact .nil
  | cons d' ds ih =>
    cases h with
    | cons h1 h2 =>
      cases n with
      | zero => exact h2
      | succ n => exact .cons h1 (ih n h2)
theorem RepL.dropLast {xs : List V} {ds : List D} (h : RepL K g xs ds) : RepL K g xs.dropLast ds.dropLast := by
  rw [List.dropLast_eq_take, List.dropLast_eq_take, h.len]
  exact h.take _
theorem RepL.ints : ∀ (ns : List Int), RepL K g (ns.map V.int) (ns.map D.int)
  | [] => .nil
  | n :: ns => .cons (.int n) (RepL.ints ns)
theorem RepL.cut {xs : List V} {ds : List D} (h : RepL K g xs ds) (lo hi : Option Int) : RepL K g (cutV xs lo hi) (cutD ds lo hi) := by
  unfold cutV cutD
  rw [h.len]
  exact (h.drop _).take _
theorem atI_rep {xs : List V} {ds : List D} (h : RepL K g xs ds) {i : Int} {d : D} (e : atI ds i = some d) : ∃ v, atI xs i = some v ∧ Rep K g v d := by
  unfold atI at e ⊢
  rw [h.len]
  cases q : ixN ds.length i with
  | none => rw [q] at e; cases e
  | some j =>
    rw [q] at e
    obtain ⟨v, hv, r⟩ := h.get e
    exact ⟨v, hv, r⟩
end

/-! ### the world -/
structure Ob where
  ok : Nat × D → Gh → HO → Prop
  mono : ∀ {c g g' o}, g.le g' → ok c g o → ok c g' o
structure WOk (ob : Ob) (g : Gh) (H : Hp) : Prop where
  f : ∀ a o, g.F a = some o → H a = some o
  b : ∀ a c, g.B a = some c → ∃ o, H a = some o ∧ ob.ok c g o
  fb : ∀ a o, g.F a = some o → g.B a = none
structure Ext (ob : Ob) (g : Gh) (H : Hp) (g' : Gh) (H' : Hp) : Prop where
  le : g.le g'
  keep : ∀ p o, H p = some o → g.B p = none → H' p = some o
  nF : ∀ p o, H p = some o → g.F p = none → g'.F p = none
  nB : ∀ p o, H p = some o → g.B p = none → g'.B p = none
  ok : WOk ob g' H'
section
variable {ob : Ob} {g g1 g2 : Gh} {H H1 H2 : Hp}
theorem Ext.refl (w : WOk ob g H) : Ext ob g H g H := ⟨.refl g, fun _ _ h _ => h, fun _ _ _ h => h, fun _ _ _ h => h, w⟩
theorem Ext.trans (a : Ext ob g H g1 H1) (b : Ext ob g1 H1 g2 H2) : Ext ob g H g2 H2 where
  le := a.le.trans b.le
  keep := fun p o h n => b.keep p o (a.keep p o h n) (a.nB p o h n)
  nF := fun p o h n => by
    cases q : g.B p with
    | none => exact b.nF p o (a.keep p o h q) (a.nF p o h n)
    | some c =>
      obtain ⟨o', h', _⟩ := a.ok.b p c (a.le.b p c q)
      exact b.nF p o' h' (a.nF p o h n)
  nB := fun p o h n => b.nB p o (a.keep p o h n) (a.nB p o h n)
  ok := b.ok
theorem WOk.fresh (w : WOk ob g H) {p : Addr} (h : H p = none) : g.F p = none ∧ g.B p = none := by
  constructor
  · cases q : g.F p with
    | none => rfl
    | some o => rw [w.f p o q] at h; cases h
  · cases q : g.B p with
    | none => rfl
    | some c =>
      obtain ⟨o, h', _⟩ := w.b p c q
      rw [h'] at h; cases h
/-- fresh behind is fresh ahead -/
theorem Ext.back (x : Ext ob g H g1 H1) {p : Addr} (h : H1 p = none) : H p = none := by
  cases q : H p with
  | none => rfl
  | some o =>
    cases qb : g.B p with
    | none => rw [x.keep p o q qb] at h; cases h
    | some c =>
      obtain ⟨o', h', _⟩ := x.ok.b p c (x.le.b p c qb)
      rw [h'] at h; cases h
/-- a new object of the def's own -/
theorem Ext.own (w : WOk ob g H) {p : Addr} {o : HO} (h : H p = none) : Ext ob g H g (upd H p o) where
  le := .refl g
  keep := fun q u e _ => by rw [upd_ne (ne_of_none e h)]; exact e
  nF := fun _ _ _ n => n
  nB := fun _ _ _ n => n
  ok := ⟨fun a u e => by rw [upd_ne (ne_of_none (w.f a u e) h)]; exact w.f a u e, fun a c e => by
    obtain ⟨u, e1, e2⟩ := w.b a c e
    exact ⟨u, by rw [upd_ne (ne_of_none e1 h)]; exact e1, e2⟩, w.fb⟩
def Gh.put (g : Gh) (p : Addr) (o : HO) : Gh := ⟨upd g.F p o, g.B⟩
theorem Gh.put_le {p : Addr} {o : HO} (h : g.F p = none) : g.le (g.put p o) := ⟨fun a u e => by
  show upd g.F p o a = _
  rw [upd_ne (ne_of_none e h)]; exact e, fun _ _ e => e⟩
theorem put_F {p : Addr} {o : HO} : (g.put p o).F p = some o := upd_same
/-- an object that nobody else knows is frozen -/
theorem Ext.freeze (x : Ext ob g H g1 H1) {p : Addr} {o : HO} (h : H p = none) (h1 : H1 p = some o) (hf : g1.F p = none) (hb : g1.B p = none) : Ext ob g H (g1.put p o) H1 where
  le := x.le.trans (Gh.put_le hf)
  keep := x.keep
  nF := fun q u e n => by
    show upd g1.F p o q = none
    rw [upd_ne (ne_of_none e h)]; exact x.nF q u e n
  nB := x.nB
  ok := ⟨fun a u e => by
    by_cases ha : a = p
    · subst ha
      have e' : upd g1.F a o a = some u := e
      rw [upd_same] at e'
      rw [h1]; exact e'
    · have e' : upd g1.F p o a = some u := e
      rw [upd_ne ha] at e'
      exact x.ok.f a u e', fun a c e => by
    obtain ⟨u, e1, e2⟩ := x.ok.b a c e
    exact ⟨u, e1, ob.mono (Gh.put_le hf) e2⟩, fun a u e => by
    by_cases ha : a = p
    · subst ha; exact hb
    · have e' : upd g1.F p o a = some u := e
      rw [upd_ne ha] at e'
      exact x.ok.fb a u e'⟩
/-- a new immutable object -/
theorem Ext.new (w : WOk ob g H) {p : Addr} {o : HO} (h : H p = none) : Ext ob g H (g.put p o) (upd H p o) :=
  (Ext.own w h).freeze h upd_same (w.fresh h).1 (w.fresh h).2
/-- an object that g and B do not know, and that stood not at the beginning, is written -/
theorem Ext.write (x : Ext ob g H g1 H1) {p : Addr} {o : HO} (h : H p = none) (hf : g1.F p = none) (hb : g1.B p = none) : Ext ob g H g1 (upd H1 p o) where
  le := x.le
  keep := fun q u e n => by rw [upd_ne (ne_of_none e h)]; exact x.keep q u e n
  nF := x.nF
  nB := x.nB
  ok := ⟨fun a u e => by rw [upd_ne (ne_of_none e hf)]; exact x.ok.f a u e, fun a c e => by
    obtain ⟨u, e1, e2⟩ := x.ok.b a c e
    refine ⟨u, ?_, e2⟩
    rw [upd_ne (fun z => by subst z; rw [hb] at e; cases e)]
    exact e1, x.ok.fb⟩
end

/-- data, or an owned list as it stands now -/
def RepR (K : PySem.W.Frag) (g : Gh) (H : Hp) (v : V) (d : D) : Prop :=
  match d with
  | .own ds => ∃ a xs, v = .ref a ∧ H a = some (.lst xs) ∧ g.F a = none ∧ g.B a = none ∧ RepL K g xs ds
  | d => Rep K g v d
section
variable {K : PySem.W.Frag} {ob : Ob} {g g1 : Gh} {H H1 : Hp} {v : V} {d : D}
theorem RepR.of (h : Rep K g v d) : RepR K g H v d := by
  cases d <;> first | exact h | cases h
theorem RepR.pure (h : RepR K g H v d) (n : isOwn d = false) : Rep K g v d := by
  cases d <;> first | exact h | cases n
theorem RepR.ext (x : Ext ob g H g1 H1) (h : RepR K g H v d) : RepR K g1 H1 v d := by
  cases d with
  | own ds =>
    obtain ⟨a, xs, e, h1, hf, hb, hl⟩ := h
    exact ⟨a, xs, e, x.keep a _ h1 hb, x.nF a _ h1 hf, x.nB a _ h1 hb, RepL.mono x.le _ _ hl⟩
  | _ => exact Rep.mono x.le _ _ h
theorem sql_w (w : WOk ob g H) {a : Addr} {xs : List V} (h : SqL K g.F a xs) : SqL K H a xs := sql_le w.f h
theorem sqt_w (w : WOk ob g H) {a : Addr} {xs : List V} (h : SqT K g.F a xs) : SqT K H a xs := sqt_le w.f h
/-- a list to be read -/
theorem RepR.list (w : WOk ob g H) {ds : List D} (h : RepR K g H v d) (e : seen d = .lst ds) : ∃ a xs, v = .ref a ∧ SqL K H a xs ∧ RepL K g xs ds := by
  cases d with
  | own es =>
    cases e
    obtain ⟨a, xs, e, h1, hf, hb, hl⟩ := h
    exact ⟨a, xs, e, .of h1, hl⟩
  | lst es =>
    cases e
    cases (show Rep K g v _ from h) with
    | lst hs hl => exact ⟨_, _, rfl, sql_w w hs, hl⟩
  | _ => cases e
theorem RepR.tuple (w : WOk ob g H) {ds : List D} (h : RepR K g H v (.tup ds)) : ∃ a xs, v = .ref a ∧ SqT K H a xs ∧ RepL K g xs ds := by
  cases (show Rep K g v _ from h) with
  | tup hs hl => exact ⟨_, _, rfl, sqt_w w hs, hl⟩
end
/- data as the library data -/
mutual
theorem dp_of {K : PySem.W.Frag} {ob : Ob} {g : Gh} {H : Hp} (w : WOk ob g H) : ∀ (d : D) (v : V) (e : PyData), Rep K g v d → toPy d = some e → Dp K H v e
  | .non, _, _, h, q => by cases h; cases q; exact .non
  | .bl b, _, _, h, q => by cases h; cases q; exact .bl b
  | .int i, _, _, h, q => by cases h; cases q; exact .int i
  | .str x, _, _, h, q => by cases h; cases q; exact .str x
  | .lst ds, _, _, h, q => by
    cases h with
    | lst hs hl =>
      unfold toPy at q
      cases r : toPys ds with
      | none => rw [r] at q; cases q
      | some es =>
        rw [r] at q; cases q
        exact .lst (sql_w w hs) (dps_of w ds _ es hl r)
  | .tup ds, _, _, h, q => by
    cases h with
    | tup hs hl =>
      unfold toPy at q
      cases r : toPys ds with
      | none => rw [r] at q; cases q
      | some es =>
        rw [r] at q; cases q
        exact .tup (sqt_w w hs) (dps_of w ds _ es hl r)
  | .own ds, _, _, h, _ => by cases h
  | .obj _ _, _, _, _, q => by unfold toPy at q; cases q
theorem dps_of {K : PySem.W.Frag} {ob : Ob} {g : Gh} {H : Hp} (w : WOk ob g H) : ∀ (ds : List D) (vs : List V) (es : List PyData), RepL K g vs ds → toPys ds = some es → DpAll K H vs es
  | [], _, _, h, q => by cases h; cases q; exact .nil
  | d :: ds, _, _, h, q => by
    cases h with
    | cons h1 h2 =>
      unfold toPys at q
      cases r1 : toPy d with
      | none => rw [r1] at q; cases q
      | some e =>
        cases r2 : toPys ds with
        | none => rw [r1, r2] at q; cases q
        | some es =>
          rw [r1, r2] at q; cases q
          exact .cons (dp_of w d _ e h1 r1) (dps_of w ds _ es h2 r2)
end
theorem dp_ofR {K : PySem.W.Frag} {ob : Ob} {g : Gh} {H : Hp} (w : WOk ob g H) {d : D} {v : V} {e : PyData} (h : RepR K g H v d) (q : toPy (seen d) = some e) : Dp K H v e := by
  cases d with
  | own ds =>
    obtain ⟨a, xs, ev, h1, hf, hb, hl⟩ := h
    subst ev
    have q' : toPy (.lst ds) = some e := q
    unfold toPy at q'
    cases r : toPys ds with
    | none => rw [r] at q'; cases q'
    | some es =>
      rw [r] at q'; cases q'
      exact .lst (.of h1) (dps_of w ds _ es hl r)
  | _ => exact dp_of w _ _ _ h q
end MP

/-! MiniPy: what syntax stands for which text of the model. -/
namespace MP
open PySem PySem.Spec PyProof.Rows L2

/-- a def's names, its scope; fnc: within a comprehension's block, the block's own scope; the defs by number -/
structure Gam where
  N : List Str
  sc : Scope
  fnc : Option Scope
  fname : Nat → Option Str
  dfl : Nat → List (List Int)

def visB (sc : Scope) (x : Str) : Bool := match sc.names.lookup x with
  | some .local => true | some .cell => true | some .free => true | _ => false
def locB (Γ : Gam) (x : Str) : Bool := match Γ.sc.names.lookup x with
  | some .local => true
  | some .cell => (match Γ.fnc with | none => true | some s => decide (s.names.lookup x = some .cell))
  | _ => false
def glB (sc : Scope) (x : Str) : Bool := decide (sc.names.lookup x = some .globalImplicit)
def opB : BOp → Operator → Bool
  | .add, .Add | .sub, .Sub | .mul, .Mult | .fdiv, .FloorDiv | .mod, .Mod | .pow, .Pow => true
  | _, _ => false
def copB : COp → CmpOp → Bool
  | .lt, .Lt | .le, .LtE | .gt, .Gt | .ge, .GtE | .eq, .Eq | .ne, .NotEq | .is, .Is | .isnot, .IsNot => true
  | _, _ => false
def pname : Pm → Str
  | .len => "len" | .abs => "abs" | .int => "int" | .list => "list" | .tuple => "tuple"
  | _ => "isinstance"
/-- the class that an isinstance asks -/
def pcls : Pm → Option (Str × String)
  | .isInt => some ("int", "int") | .isBool => some ("bool", "bool") | .isTuple => some ("tuple", "tuple") | .isList => some ("list", "list") | .isStr => some ("str", "str")
  | _ => none
def nameAt (Γ : Gam) (i : Nat) (x : Str) : Bool := decide (Γ.N[i]? = some x)
def slotB (Γ : Gam) (i : Nat) (x : Str) : Bool := nameAt Γ i x && visB Γ.sc x && !(x == ("__debug__" : Str)) && !(x == ("__classdict__" : Str))
def tgB (Γ : Gam) (j : Nat) (x : Str) : Bool := nameAt Γ j x && locB Γ x
def ownL (N : List Str) (own : List Nat) : List (Str × Nat) := own.map fun j => (N.getD j ⟨#[]⟩, j)
def mTgs (Γ : Gam) : List Nat → List Expr → Bool
  | [], [] => true
  | j :: js, .Name x _ :: ts => tgB Γ j x && mTgs Γ js ts
  | _, _ => false
def mTg (Γ : Gam) (js : List Nat) (e : Expr) : Bool := match e with
  | .Name x _ => (match js with | [j] => tgB Γ j x | _ => false)
  | .Tuple ts _ _ => (match js with | _ :: _ :: _ => mTgs Γ js ts | _ => false)
  | _ => false
/-- tests that are their value's truth -/
def plainT : Expr → Bool
  | .Name .. | .Call .. | .Subscript .. => true
  | _ => false

mutual
def mE (Γ : Gam) : E → Expr → Bool
  | .slot i, .Name x _ => slotB Γ i x
  | .cint i, .Constant (.int j) _ _ => decide (i = j)
  | .cbl b, .Constant (.bool c) _ _ => decide (b = c)
  | .cnon, .Constant .none _ _ => true
  | .cstr x, .Constant (.str y) _ _ => decide (x = y)
  | .bin op a b, .BinOp x o y _ => opB op o && mE Γ a x && mE Γ b y
  | .neg a, .UnaryOp .USub x _ => mE Γ a x
  | .cmp op a b, .Compare x [o] [y] _ => copB op o && mE Γ a x && mE Γ b y
  | .andV es, .BoolOp .And xs _ => mEs Γ es xs
  | .orV es, .BoolOp .Or xs _ => mEs Γ es xs
  | .notV a, .UnaryOp .Not x _ => mE Γ a x
  | .ite t a b, .IfExp c x y _ => mT Γ t c && mE Γ a x && mE Γ b y
  | .tup es, .Tuple xs _ _ => mEs Γ es xs
  | .lst es, .List xs _ => mEs Γ es xs
  | .idx a b, .Subscript x y _ => mE Γ a x && mE Γ b y
  | .slc a lo hi, .Subscript x (.Slice l h none _) _ => mE Γ a x && mO Γ lo l && mO Γ hi h
  | .call f es dv, .Call (.Name x _) xs [] _ => decide (Γ.fname f = some x) && glB Γ.sc x && !(x == ("__debug__" : Str)) && decide (dv ∈ Γ.dfl f) && mEs Γ es xs
  | .prim p es, .Call (.Name x _) xs [] _ => decide (x = pname p) && glB Γ.sc x && (match pcls p with
    | none => (match xs with | [_] => mEs Γ es xs | _ => false)
    | some (c, _) => (match xs with | [y, .Name z _] => mEs Γ es [y] && decide (z = c) && glB Γ.sc z | _ => false))
  | .comp elt tg it ts own, .ListComp y [⟨tx, ix, ifs, a⟩] scope _ =>
    decide (a = 0) && blkC Γ.N Γ.sc scope (ownL Γ.N own) && mIt Γ it ix && (let Γ' := { Γ with sc := relS scope Γ.sc, fnc := some scope };
      mE Γ' elt y && mTg Γ' tg tx && tg.all (fun j => decide (j ∈ own)) && mTs Γ' ts ifs && decide (ifs.length ≤ 1))
  | _, _ => false
def mEs (Γ : Gam) : Es → List Expr → Bool
  | .nil, [] => true
  | .cons e es, x :: xs => mE Γ e x && mEs Γ es xs
  | _, _ => false
def mO (Γ : Gam) : O → Option Expr → Bool
  | .none, none => true
  | .some e, some x => mE Γ e x
  | _, _ => false
def mT (Γ : Gam) : T → Expr → Bool
  | .tru e, x => plainT x && mE Γ e x
  | .cmp op a b, .Compare x [o] [y] _ => copB op o && mE Γ a x && mE Γ b y
  | .chain op op' a b c, .Compare x [o, o'] [y, z] _ => copB op o && copB op' o' && mE Γ a x && mE Γ b y && mE Γ c z
  | .and ts, .BoolOp .And xs _ => mTs Γ ts xs && !xs.isEmpty
  | .or ts, .BoolOp .Or xs _ => mTs Γ ts xs && !xs.isEmpty
  | .not t, .UnaryOp .Not x _ => mT Γ t x
  | _, _ => false
def mTs (Γ : Gam) : Ts → List Expr → Bool
  | .nil, [] => true
  | .cons t ts, x :: xs => mT Γ t x && mTs Γ ts xs
  | _, _ => false
def mIt (Γ : Gam) : It → Expr → Bool
  | .rng1 a, .Call (.Name f _) [x] [] _ => decide (f = ("range" : Str)) && glB Γ.sc f && mE Γ a x
  | .rng2 a b, .Call (.Name f _) [x, y] [] _ => decide (f = ("range" : Str)) && glB Γ.sc f && mE Γ a x && mE Γ b y
  | .seq e, x => mE Γ e x
  | _, _ => false
end
def isTup : Expr → Bool
  | .Tuple .. => true
  | _ => false
def locL (sc : Scope) (x : Str) : Bool := decide (sc.names.lookup x = some .local)
mutual
def mS (Γ : Gam) : S → Stmt → Bool
  | .set i e, .Assign [.Name x _] v _ => tgB Γ i x && mE Γ e v
  | .setM i e, .Assign [.Name x _] v _ => tgB Γ i x && mE Γ e v
  | .unp is e, .Assign [.Tuple ts _ _] v _ => mTgs Γ is ts && mE Γ e v && !isTup v
  | .par i j a b, .Assign [.Tuple [.Name x px, .Name y py] _ _] (.Tuple [u, v] _ _) _ =>
    nameAt Γ i x && nameAt Γ j y && decide (i ≠ j) && locL Γ.sc x && locL Γ.sc y && mE Γ a u && mE Γ b v && decide (px.line = py.line) && decide (x ≠ y) && Γ.fnc.isNone &&
      !(foldedForSure 8 u && foldedForSure 8 v) && !(constantsAlone 8 u && constantsAlone 8 v)
  | .aug i op e, .AugAssign (.Name x _) o v _ => tgB Γ i x && opB op o && mE Γ e v
  | .app i e, .Expr (.Call (.Attribute (.Name x _) m ap) [v] [] cp) _ => slotB Γ i x && decide (m = ("append" : Str)) && mE Γ e v && decide (ap.endLine = cp.line)
  | .setIx i j e, .Assign [.Subscript (.Name x _) y _] v _ => slotB Γ i x && mE Γ j y && mE Γ e v
  | .ins i j e, .Expr (.Call (.Attribute (.Name x _) m ap) [y, v] [] cp) _ => slotB Γ i x && decide (m = ("insert" : Str)) && mE Γ j y && mE Γ e v && decide (ap.endLine = cp.line)
  | .popTo k i j, .Assign [.Name z _] (.Call (.Attribute (.Name x _) m ap) [y] [] cp) _ => tgB Γ k z && slotB Γ i x && decide (k ≠ i) && decide (m = ("pop" : Str)) && mE Γ j y && decide (ap.endLine = cp.line)
  | .popE i, .Expr (.Call (.Attribute (.Name x _) m ap) [] [] cp) _ => slotB Γ i x && decide (m = ("pop" : Str)) && decide (ap.endLine = cp.line)
  | .ifS t a b, .If c x y _ => mT Γ t c && mSs Γ a x && mSs Γ b y
  | .forS tg it body, .For t i b [] _ => mTg Γ tg t && mIt Γ it i && mSs Γ body b
  | .whileS t body, .While c b [] _ => mT Γ t c && mSs Γ body b
  | .ret e, .Return (some v) _ => mE Γ e v
  | .ret .cnon, .Return none _ => true
  | .brk, .Break _ => true
  | .cont, .Continue _ => true
  | .pass, .Pass _ => true
  | .bad, _ => true
  | _, _ => false
def mSs (Γ : Gam) : Ss → List Stmt → Bool
  | .nil, [] => true
  | .cons (.frz _) ss, sts => mSs Γ ss sts
  | .cons s ss, st :: sts => mS Γ s st && mSs Γ ss sts
  | _, _ => false
end
end MP

/-! MiniPy: weakest readings, contexts, what is known in a def. -/
namespace MP
open PySem PySem.Spec PyProof.Rows L2

/-! ### the weakest reading of a piece of text -/
def wpE (X : Cx) (e : Expr) : TE := fun σ H Q => ∀ (pins : List (Addr × Obj)) (s : Shared), Inv X pins σ H s → wpAny (model X.prog X.w) X.A (eval e X.env) (EP X pins σ Q) X.xe s
def wpT (X : Cx) (e : Expr) : TT := fun σ H Q => ∀ (pins : List (Addr × Obj)) (s : Shared), Inv X pins σ H s → wpAny (model X.prog X.w) X.A (isTrue e X.env (eval e X.env)) (TP X pins σ Q) X.xe s
def wpW (X : Cx) (e : Expr) : TT := fun σ H Q => ∀ (whole : Sem Value) (pins : List (Addr × Obj)) (s : Shared), Inv X pins σ H s → wpAny (model X.prog X.w) X.A (isTrue e X.env whole) (TP X pins σ Q) X.xe s
def wpA (X : Cx) (es : List Expr) : TA := fun σ H Q => ∀ (pos : Pos) (pins : List (Addr × Obj)) (s : Shared), Inv X pins σ H s → wpAny (model X.prog X.w) X.A (spliced (backTo pos (starEach es X.env))) (AP X pins σ Q) X.xe s
def wpS (X : Cx) (st : Stmt) : TS := fun D σ H => ∀ (pins : List (Addr × Obj)) (s : Shared), Inv X pins σ H s → wpAny (model X.prog X.w) X.A (exec st X.env) (SP X pins D) X.xe s
def wpSs (X : Cx) (st : List Stmt) : TS := fun D σ H => ∀ (pins : List (Addr × Obj)) (s : Shared), Inv X pins σ H s → wpAny (model X.prog X.w) X.A (execs st X.env) (SP X pins D) X.xe s
def wpG (X : Cx) (tg : Expr) : TG := fun v σ H Q => ∀ (pins : List (Addr × Obj)) (s : Shared) (u : Value), Inv X pins σ H s → RelV v u →
    wpAny (model X.prog X.w) X.A (assign tg X.env u) (fun _ s' => ∃ σ' H', Inv X pins σ' H' s' ∧ Q σ' H') X.xe s
def wpI (X : Cx) (tg it : Expr) : TI := fun σ H R => ∀ (pins : List (Addr × Obj)) (s : Shared), Inv X pins σ H s →
    wpAny (model X.prog X.w) X.A (eval it X.env) (fun v s1 => wpAny (model X.prog X.w) X.A (pyIter v) (PIE X pins σ tg R) X.xe s1) X.xe s
section
variable {X : Cx} {e : Expr} {es : List Expr} {st : Stmt} {sts : List Stmt}
theorem pe_wp : PE X e (wpE X e) := ⟨fun pins s _ _ _ I h => h pins s I⟩
theorem pt_wp : PT X e (wpT X e) := ⟨fun pins s _ _ _ I h => h pins s I⟩
theorem pw_wp : PW X e (wpW X e) := ⟨fun wh pins s _ _ _ I h => h wh pins s I⟩
theorem pa_wp : PA X es (wpA X es) := ⟨fun pos pins s _ _ _ I h => h pos pins s I⟩
theorem ps_wp : PS X st (wpS X st) := ⟨fun pins s _ _ _ I h => h pins s I⟩
theorem pss_wp : PSs X sts (wpSs X sts) := ⟨fun pins s _ _ _ I h => h pins s I⟩
theorem pg_wp : PG X e (wpG X e) := ⟨fun pins s _ _ _ u _ I r h => h pins s u I r⟩
theorem pi_wp {tg : Expr} : PI X tg e (wpI X tg e) := ⟨fun pins s _ _ _ I h => h pins s I⟩
theorem _root_.L2.PE.wp {t : TE} (h : PE X e t) {σ : L2.St} {H : Hp} {Q : VK} (q : t σ H Q) : wpE X e σ H Q := fun pins s I => h.run pins s σ H Q I q
theorem _root_.L2.PT.wp {t : TT} (h : PT X e t) {σ : L2.St} {H : Hp} {Q : Bool → Hp → Prop} (q : t σ H Q) : wpT X e σ H Q := fun pins s I => h.run pins s σ H Q I q
theorem _root_.L2.PW.wp {t : TT} (h : PW X e t) {σ : L2.St} {H : Hp} {Q : Bool → Hp → Prop} (q : t σ H Q) : wpW X e σ H Q := fun wh pins s I => h.run wh pins s σ H Q I q
theorem _root_.L2.PA.wp {t : TA} (h : PA X es t) {σ : L2.St} {H : Hp} {Q : List V → Hp → Prop} (q : t σ H Q) : wpA X es σ H Q := fun pos pins s I => h.run pos pins s σ H Q I q
theorem _root_.L2.PS.wp {t : TS} (h : PS X st t) {σ : L2.St} {H : Hp} {D : Ends} (q : t D σ H) : wpS X st D σ H := fun pins s I => h.run pins s σ H D I q
theorem _root_.L2.PSs.wp {t : TS} (h : PSs X sts t) {σ : L2.St} {H : Hp} {D : Ends} (q : t D σ H) : wpSs X sts D σ H := fun pins s I => h.run pins s σ H D I q
theorem _root_.L2.PG.wp {t : TG} (h : PG X e t) {v : V} {σ : L2.St} {H : Hp} {Q : L2.St → Hp → Prop} (q : t v σ H Q) : wpG X e v σ H Q := fun pins s u I r => h.run pins s σ H v u Q I r q
theorem _root_.L2.PI.wp {tg : Expr} {t : TI} (h : PI X tg e t) {σ : L2.St} {H : Hp} {R : L2.It → Hp → Prop} (q : t σ H R) : wpI X tg e σ H R := fun pins s I => h.run pins s σ H R I q
end

/-! ### contexts -/
structure Ctx (X : Cx) (Γ : Gam) : Prop where
  N : X.N = Γ.N
  sc : X.env.scope = Γ.sc
  fn : ∀ x, X.fn x = (match Γ.fnc with | none => true | some s => s.names.lookup x == some .cell)
  nd : Γ.N.Nodup
  calm : X.calm = true
  xe : X.xe = fun _ _ => False
  kind : Γ.sc.kind = .function
/-- what a def promises: the value of its function on data -/
def spF (ob : Ob) (K : PySem.W.Frag) (φ : List D → Option D) : Sp := fun vs H Q _ => ∃ (g : Gh) (ds : List D) (d : D), WOk ob g H ∧ RepL K g vs ds ∧ φ ds = some d ∧
  ∀ v g' H', Ext ob g H g' H' → Rep K g' v d → Q v H'
structure Fns (ob : Ob) (Φ : Nat → List D → Option D) (X : Cx) (Γ : Gam) (k : Nat) : Prop where
  room : Room k X.A
  fn : ∀ f x, Γ.fname f = some x → ∃ (a : Addr) (fd : FuncData) (ps : List Str), X.mg x = some (.ref a) ∧ PySem.W.keepIn X.K (.ref a) = true ∧ FnOk X.prog X.w X.K X.mg X.base CX0 k a fd ps (spF ob X.K (Φ f)) ∧
    ∀ dv ∈ Γ.dfl f, ∃ us, Vals (dv.map V.int) us ∧ Binds X.K fd ps us
  bl : ∀ x ∈ ([("len" : Str), "abs", "int", "list", "tuple", "isinstance", "range", "bool", "str"] : List Str), X.mg x = none

/-- the slots and what they hold -/
def SlotOk (K : PySem.W.Frag) (g : Gh) (H : Hp) (σ : L2.St) (i : Nat) : SV → Prop
  | .non => True
  | .val d => ∃ v, σ[i]? = some (some v) ∧ Rep K g v d
  | .mls ds => ∃ a xs, σ[i]? = some (some (.ref a)) ∧ H a = some (.lst xs) ∧ g.F a = none ∧ g.B a = none ∧ RepL K g xs ds
structure Slots (K : PySem.W.Frag) (g : Gh) (H : Hp) (σ : L2.St) (ρ : Rho) : Prop where
  len : σ.length = ρ.length
  at' : ∀ i sv, ρ[i]? = some sv → SlotOk K g H σ i sv
theorem Slots.ext {K : PySem.W.Frag} {ob : Ob} {g g1 : Gh} {H H1 : Hp} {σ : L2.St} {ρ : Rho} (s : Slots K g H σ ρ) (x : Ext ob g H g1 H1) : Slots K g1 H1 σ ρ := ⟨s.len, fun i sv e => by
  have h := s.at' i sv e
  cases sv with
  | non => trivial
  | val d =>
    obtain ⟨v, h1, h2⟩ := h
    exact ⟨v, h1, Rep.mono x.le _ _ h2⟩
  | mls ds =>
    obtain ⟨a, xs, h1, h2, hf, hb, h3⟩ := h
    exact ⟨a, xs, h1, x.keep a _ h2 hb, x.nF a _ h2 hf, x.nB a _ h2 hb, RepL.mono x.le _ _ h3⟩⟩
theorem Slots.setVal {K : PySem.W.Frag} {g : Gh} {H : Hp} {σ : L2.St} {ρ : Rho} {v : V} {d : D} (s : Slots K g H σ ρ) (j : Nat) (r : Rep K g v d) : Slots K g H (σ.set j (some v)) (ρ.set j (.val d)) := ⟨by simp [s.len], fun i sv e => by
  by_cases h : j = i
  · subst h
    have hl : j < ρ.length := by
      have := (List.getElem?_eq_some_iff.mp e).1
      simpa using this
    rw [List.getElem?_set_self hl] at e
    cases e
    exact ⟨v, by rw [List.getElem?_set_self (by rw [s.len]; exact hl)], r⟩
  · rw [List.getElem?_set_ne h] at e
    have q := s.at' i sv e
    cases sv with
    | non => trivial
    | val d => obtain ⟨v, h1, h2⟩ := q; exact ⟨v, by rw [List.getElem?_set_ne h]; exact h1, h2⟩
    | mls ds => obtain ⟨a, xs, h1, h2⟩ := q; exact ⟨a, xs, by rw [List.getElem?_set_ne h]; exact h1, h2⟩⟩
theorem Slots.wipe {K : PySem.W.Frag} {g : Gh} {H : Hp} {σ : L2.St} {ρ : Rho} (s : Slots K g H σ ρ) : ∀ own : List Nat, Slots K g H (L2.wipe σ own) (wipeR ρ own)
  | [] => s
  | j :: own => by
    have ih := s.wipe own
    show Slots K g H ((L2.wipe σ own).set j none) ((wipeR ρ own).set j .non)
    refine ⟨by simp [ih.len], fun i sv e => ?_⟩
    by_cases h : j = i
    · subst h
      have hl : j < (wipeR ρ own).length := by
        have := (List.getElem?_eq_some_iff.mp e).1
        simpa using this
      rw [List.getElem?_set_self hl] at e
      cases e
      trivial
    · rw [List.getElem?_set_ne h] at e
      have q := ih.at' i sv e
      cases sv with
      | non => trivial
      | val d => obtain ⟨v, h1, h2⟩ := q; exact ⟨v, by rw [List.getElem?_set_ne h]; exact h1, h2⟩
      | mls ds => obtain ⟨a, xs, h1, h2⟩ := q; exact ⟨a, xs, by rw [List.getElem?_set_ne h]; exact h1, h2⟩

/-- all that is known at a place of a def's body -/
structure Here (ob : Ob) (Φ : Nat → List D → Option D) (X : Cx) (Γ : Gam) (k : Nat) (g : Gh) (H : Hp) (σ : L2.St) (ρ : Rho) : Prop where
  c : Ctx X Γ
  f : Fns ob Φ X Γ k
  w : WOk ob g H
  s : Slots X.K g H σ ρ
theorem Here.ext {ob : Ob} {Φ : Nat → List D → Option D} {X : Cx} {Γ : Gam} {k : Nat} {g g1 : Gh} {H H1 : Hp} {σ : L2.St} {ρ : Rho} (h : Here ob Φ X Γ k g H σ ρ) (x : Ext ob g H g1 H1) : Here ob Φ X Γ k g1 H1 σ ρ := ⟨h.c, h.f, x.ok, h.s.ext x⟩

theorem vis_of {sc : Scope} {x : Str} (h : visB sc x = true) : Vis sc x := by
  unfold visB at h
  split at h <;> first | exact .inl (by assumption) | exact .inr (.inl (by assumption)) | exact .inr (.inr (by assumption)) | cases h
theorem gl_of {X : Cx} {Γ : Gam} {x : Str} (c : Ctx X Γ) (h : glB Γ.sc x = true) : Gl X x := by
  unfold glB at h
  show X.env.scope.names.lookup x = _
  rw [c.sc]
  exact of_decide_eq_true h
theorem loc_of {X : Cx} {Γ : Gam} {x : Str} (c : Ctx X Γ) (h : locB Γ x = true) : Loc X.env.scope x ∧ (X.fn x = true ∨ X.env.scope.names.lookup x = some .local) := by
  unfold locB at h
  rw [c.sc, c.fn]
  split at h
  · exact ⟨.inl (by assumption), .inr (by assumption)⟩
  · refine ⟨.inr (by assumption), .inl ?_⟩
    split at h
    · rename_i q; first | rw [q] | rfl
    · rename_i q; first | (rw [q]; simpa using h) | simpa using h
  · cases h
theorem star_cons {Γ : Gam} {c : E} {e : Expr} (h : mE Γ c e = true) (es : List Expr) (env : Env) : starEach (e :: es) env = (false, eval e env) :: starEach es env := by
  cases e <;> first | rfl | (exfalso; cases c <;> simp [mE] at h)
theorem not_set {Γ : Gam} {c : E} {e : Expr} (h : mE Γ c e = true) (env : Env) (x : Value) : foldedSetIterable e env x = pure x := by
  cases e <;> first | rfl | (exfalso; cases c <;> simp [mE] at h)
theorem plain_ix {Γ : Gam} {c : E} {e : Expr} (h : mE Γ c e = true) : PlainIx e := by
  intro o i
  cases e <;> first | rfl | (exfalso; cases c <;> simp [mE] at h)
theorem star_none {Γ : Gam} {pos : Pos} {env : Env} : ∀ {cs : Es} {es : List Expr}, mEs Γ cs es = true → (backTo pos (starEach es env)).any (·.1) = false
  | .nil, [], _ => rfl
  | .nil, _ :: _, h => by simp [mEs] at h
  | .cons _ _, [], h => by simp [mEs] at h
  | .cons c cs, e :: es, h => by
    simp only [mEs, Bool.and_eq_true] at h
    rw [star_cons h.1]
    show (false || (backTo pos (starEach es env)).any (·.1)) = false
    rw [star_none h.2]; rfl
end MP

set_option maxHeartbeats 1000000
/-! MiniPy: expressions keep what the evaluator says. -/
namespace MP
open PySem PySem.Spec PyProof.Rows L2

def PostE (ob : Ob) (K : PySem.W.Frag) (g : Gh) (H : Hp) (d : D) (Q : VK) : Prop := ∀ v g' H', Ext ob g H g' H' → RepR K g' H' v d → Q v H'
def PostL (ob : Ob) (K : PySem.W.Frag) (g : Gh) (H : Hp) (ds : List D) (Q : VK) : Prop :=
  ∀ p xs g' H', Ext ob g H g' H' → H p = none → H' p = some (.lst xs) → g'.F p = none → g'.B p = none → RepL K g' xs ds → Q (.ref p) H'
def PostA (ob : Ob) (K : PySem.W.Frag) (g : Gh) (H : Hp) (ds : List D) (Q : List V → Hp → Prop) : Prop := ∀ vs g' H', Ext ob g H g' H' → RepL K g' vs ds → Q vs H'
abbrev RepRL (K : PySem.W.Frag) (g : Gh) (H : Hp) : List V → List D → Prop := Paired (RepR K g H)
def PostP (ob : Ob) (K : PySem.W.Frag) (g : Gh) (H : Hp) (ds : List D) (Q : List V → Hp → Prop) : Prop := ∀ vs g' H', Ext ob g H g' H' → RepRL K g' H' vs ds → Q vs H'
def PostB (ob : Ob) (g : Gh) (H : Hp) (b : Bool) (Q : Bool → Hp → Prop) : Prop := ∀ g' H', Ext ob g H g' H' → Q b H'
section
variable {ob : Ob} {K : PySem.W.Frag} {g g1 : Gh} {H H1 : Hp} {d : D} {ds : List D}
theorem PostE.ext {Q : VK} (p : PostE ob K g H d Q) (x : Ext ob g H g1 H1) : PostE ob K g1 H1 d Q := fun v g' H' y r => p v g' H' (x.trans y) r
theorem PostL.ext {Q : VK} (p : PostL ob K g H ds Q) (x : Ext ob g H g1 H1) : PostL ob K g1 H1 ds Q := fun q xs g' H' y a b c e r => p q xs g' H' (x.trans y) (x.back a) b c e r
theorem PostE.frz {Q : VK} (p : PostE ob K g H (.lst ds) Q) : PostL ob K g H ds Q := fun q xs g' H' y a b c e r => by
  have f := y.freeze a b c e
  refine p _ _ _ f ?_
  show Rep K _ _ _
  exact .lst (.of put_F) (RepL.mono (Gh.put_le c) _ _ r)
/-- a new list where nothing else came in between -/
theorem PostL.new {Q : VK} (p : PostL ob K g H ds Q) (w : WOk ob g H) {xs : List V} (r : RepL K g xs ds) : ∀ q, H q = none → Q (.ref q) (upd H q (.lst xs)) := fun q hq =>
  p q xs g _ (Ext.own w hq) hq upd_same (w.fresh hq).1 (w.fresh hq).2 r
theorem PostE.newTup {Q : VK} (p : PostE ob K g H (.tup ds) Q) (w : WOk ob g H) {xs : List V} (r : RepL K g xs ds) : ∀ q, H q = none → Q (.ref q) (upd H q (.tup xs)) := fun q hq => by
  refine p _ _ _ (Ext.new w hq) ?_
  show Rep K _ _ _
  exact .tup (.of put_F) (RepL.mono (Gh.put_le (w.fresh hq).1) _ _ r)
theorem PostE.now {Q : VK} (p : PostE ob K g H d Q) (w : WOk ob g H) {v : V} (r : RepR K g H v d) : Q v H := p v g H (Ext.refl w) r
theorem PostB.ext {b : Bool} {Q : Bool → Hp → Prop} (p : PostB ob g H b Q) (x : Ext ob g H g1 H1) : PostB ob g1 H1 b Q := fun g' H' y => p g' H' (x.trans y)
theorem PostB.now {b : Bool} {Q : Bool → Hp → Prop} (p : PostB ob g H b Q) (w : WOk ob g H) : Q b H := p g H (Ext.refl w)
end

section
variable (ob : Ob) (Φ : Nat → List D → Option D)
def SndN (c : E) : Prop := ∀ {X : Cx} {Γ : Gam} {k : Nat} {ex : Expr} {g : Gh} {H : Hp} {σ : L2.St} {ρ : Rho} {d : D}, Here ob Φ X Γ k g H σ ρ → mE Γ c ex = true → evE Φ c ρ = some d → ∀ Q, PostE ob X.K g H d Q → wpE X ex σ H Q
def SndF (c : E) : Prop := ∀ {X : Cx} {Γ : Gam} {k : Nat} {ex : Expr} {g : Gh} {H : Hp} {σ : L2.St} {ρ : Rho} {ds : List D}, Here ob Φ X Γ k g H σ ρ → mE Γ c ex = true → evE Φ c ρ = some (.lst ds) → ∀ Q, PostL ob X.K g H ds Q → wpE X ex σ H Q
/-- both: of a form that makes a new list, the list is nobody else's -/
def SndE (c : E) : Prop := SndN ob Φ c ∧ (fresh c = true → SndF ob Φ c)
def SndEs (cs : Es) : Prop := ∀ {X : Cx} {Γ : Gam} {k : Nat} {es : List Expr} {g : Gh} {H : Hp} {σ : L2.St} {ρ : Rho} {ds : List D}, Here ob Φ X Γ k g H σ ρ → mEs Γ cs es = true → evEs Φ cs ρ = some ds → ∀ Q, PostA ob X.K g H ds Q → wpA X es σ H Q
def SndPs (cs : Es) : Prop := ∀ {X : Cx} {Γ : Gam} {k : Nat} {es : List Expr} {g : Gh} {H : Hp} {σ : L2.St} {ρ : Rho} {ds : List D}, Here ob Φ X Γ k g H σ ρ → mEs Γ cs es = true → evPs Φ cs ρ = some ds → ∀ Q, PostP ob X.K g H ds Q → wpA X es σ H Q
def SndT (c : T) : Prop := ∀ {X : Cx} {Γ : Gam} {k : Nat} {ex : Expr} {g : Gh} {H : Hp} {σ : L2.St} {ρ : Rho} {b : Bool}, Here ob Φ X Γ k g H σ ρ → mT Γ c ex = true → evT Φ c ρ = some b → ∀ Q, PostB ob g H b Q → wpT X ex σ H Q
end

section
variable {ob : Ob} {Φ : Nat → List D → Option D} {X : Cx} {Γ : Gam} {k : Nat} {g : Gh} {H : Hp} {σ : L2.St} {ρ : Rho}
theorem pure_some {e : D} {o : Option D} (h : o.bind pure? = some e) : o = some e ∧ isOwn e = false := by
  cases o with
  | none => cases h
  | some d =>
    cases d <;> first | (cases h; exact ⟨rfl, rfl⟩) | cases h
theorem two {a b : E} {x y : Expr} {da db : D} (ha : SndN ob Φ a) (hb : SndN ob Φ b) (h : Here ob Φ X Γ k g H σ ρ) (ma : mE Γ a x = true) (mb : mE Γ b y = true) (ea : evE Φ a ρ = some da) (eb : evE Φ b ρ = some db) {R : V → V → Hp → Prop}
    (post : ∀ va vb g' H', Ext ob g H g' H' → RepR X.K g' H' va da → RepR X.K g' H' vb db → R va vb H') : wpE X x σ H (fun v H1 => wpE X y σ H1 (fun u H2 => R v u H2)) :=
  ha h ma ea _ fun v g1 H1 x1 r1 => hb (h.ext x1) mb eb _ fun u g2 H2 x2 r2 => post v u g2 H2 (x1.trans x2) (r1.ext x2) r2

/-! ### names and constants -/
theorem snd_slot (i : Nat) : SndE ob Φ (.slot i) := by
  refine ⟨fun {X Γ k ex g H σ ρ d} h m e Q q => ?_, fun z => by cases z⟩
  cases ex <;> simp only [mE, Bool.false_eq_true] at m
  rename_i x pos
  simp only [slotB, nameAt, Bool.and_eq_true, decide_eq_true_eq, Bool.not_eq_true'] at m
  obtain ⟨⟨⟨m1, m2⟩, m3⟩, m4⟩ := m
  have hp : PE X (.Name x pos) (tVar i) := pe_var (by rw [h.c.N]; exact m1) (by rw [h.c.sc]; exact vis_of m2) m3 m4
  refine hp.wp ?_
  simp only [evE] at e
  split at e
  · rename_i d' e'
    cases e
    obtain ⟨v, h1, h2⟩ := h.s.at' _ _ e'
    exact ⟨v, h1, q.now h.w (.of h2)⟩
  · rename_i ds' e'
    cases e
    obtain ⟨a, xs, h1, h2, h3, h4, h5⟩ := h.s.at' _ _ e'
    exact ⟨_, h1, q.now h.w ⟨a, xs, rfl, h2, h3, h4, h5⟩⟩
  · cases e
theorem snd_int (i : Int) : SndE ob Φ (.cint i) := by
  refine ⟨fun {X Γ k ex g H σ ρ d} h m e Q q => ?_, fun z => by cases z⟩
  cases ex with
  | Constant c kk pos =>
    cases c with
    | int j =>
      have m' : decide (i = j) = true := m
      obtain rfl := of_decide_eq_true m'
      cases (show some (D.int i) = some d from e)
      exact PE.wp pe_int (q.now h.w (.of (.int _)))
    | _ => cases m
  | _ => cases m
theorem snd_bl (b : Bool) : SndE ob Φ (.cbl b) := by
  refine ⟨fun {X Γ k ex g H σ ρ d} h m e Q q => ?_, fun z => by cases z⟩
  cases ex with
  | Constant c kk pos =>
    cases c with
    | bool j =>
      have m' : decide (b = j) = true := m
      obtain rfl := of_decide_eq_true m'
      cases (show some (D.bl b) = some d from e)
      exact PE.wp pe_bl (q.now h.w (.of (.bl _)))
    | _ => cases m
  | _ => cases m
theorem snd_non : SndE ob Φ .cnon := by
  refine ⟨fun {X Γ k ex g H σ ρ d} h m e Q q => ?_, fun z => by cases z⟩
  cases ex with
  | Constant c kk pos =>
    cases c with
    | none =>
      cases (show some D.non = some d from e)
      exact PE.wp pe_non (q.now h.w (.of .non))
    | _ => cases m
  | _ => cases m
theorem snd_str (x : Str) : SndE ob Φ (.cstr x) := by
  refine ⟨fun {X Γ k ex g H σ ρ d} h m e Q q => ?_, fun z => by cases z⟩
  cases ex with
  | Constant c kk pos =>
    cases c with
    | str y =>
      have m' : decide (x = y) = true := m
      obtain rfl := of_decide_eq_true m'
      cases (show some (D.str x) = some d from e)
      exact PE.wp pe_str (q.now h.w (.of (.str _)))
    | _ => cases m
  | _ => cases m

/-! ### operators -/
def opO : BOp → Operator
  | .add => .Add | .sub => .Sub | .mul => .Mult | .fdiv => .FloorDiv | .mod => .Mod | .pow => .Pow
theorem opB_eq {op : BOp} {o : Operator} (h : opB op o = true) : o = opO op := by
  cases op <;> cases o <;> first | rfl | cases h
/-- // by any divisor but 0, below 2 ^ 9000 -/
theorem op_fdivZ : OpR X (binaryOp .FloorDiv) (rI (fun _ j => j ≠ 0 ∧ j.natAbs.log2 < 9000) fun i j => .int (i.fdiv j)) := opI fun i j _ _ _ _ _ hc q => floordiv_int hc.1 q (.inl (PyProof.noPylong_of_log2 hc.2))
theorem lst_exact {pins : List (Addr × Obj)} {σ : L2.St} {H : Hp} {s : Shared} {a : Addr} {xs : List V} (I : Inv X pins σ H s) (h : Rd H a (.lst xs)) :
    xs.length ≤ sizeLine ∧ ∃ (its : List Value) (n : Nat), Vals xs its ∧ s.heap.get? a = some { cls := .type "list", data := .seq its.toArray n } := by
  obtain ⟨z, its, n, r, e⟩ := h.ok I.hok
  exact ⟨z, its, n, r, e⟩
def rCatR (K : PySem.W.Frag) : R2 := fun x y H Q => ∃ l b xs zs, x = .ref l ∧ y = .ref b ∧ SqL K H l xs ∧ SqL K H b zs ∧ xs.length + zs.length ≤ sizeLine ∧ ∀ p, H p = none → Q (.ref p) (upd H p (.lst (xs ++ zs)))
theorem op_catR : OpR X (binaryOp .Add) (rCatR X.K) := by
  intro pins s σ H x y v u Q I rx ry h
  obtain ⟨l, b, xs, zs, rfl, rfl, hH, hB, hz, q⟩ := h
  cases rx
  cases ry
  obtain ⟨its, r, ⟨⟨cls, dd, data, sl⟩, n, e, hc, hd, hdt⟩, _⟩ := I.list hH
  obtain ⟨its2, r2, ⟨⟨cls2, dd2, data2, sl2⟩, n2, e2, hc2, hd2, hdt2⟩, _⟩ := I.list hB
  simp only at hc hd hdt hc2 hd2 hdt2
  subst hc hd hdt hc2 hd2 hdt2
  have hl := r.length
  have hl2 := r2.length
  refine concat_meets ⟨_, e, rfl⟩ ⟨_, e2, rfl⟩ noFill_list_add seq_list_add PySem.F.slot_list_add PySem.F.entry_list_add (PySem.F.args_list_add_2 _ _) (list_addW l b its.toArray its2.toArray n n2 none none sl sl2 (by rw [List.size_toArray, List.size_toArray]; omega)) ⟨e, e2, ?_⟩
  have ea : its.toArray ++ its2.toArray = (its ++ its2).toArray := by simp
  rw [ea]
  exact ⟨.ref _, _, I.lnew (t' := s.toks) (r.append r2) (by rw [List.length_append]; omega), rfl, q _ I.fresh⟩
theorem line_eq : line = sizeLine := by rw [sizeLine_eq]; rfl
/-- an operation by values -/
def OpV (ob : Ob) (X : Cx) (f : Value → Value → Sem Value) (x y d : D) : Prop := ∃ r, OpR X f r ∧ ∀ vx vy g H Q, WOk ob g H → RepR X.K g H vx x → RepR X.K g H vy y → PostE ob X.K g H d Q → r vx vy H Q
theorem bin_op {op : BOp} {x y d : D} (e : binD op x y = some d) : OpV ob X (binaryOp (opO op)) x y d := by
  unfold binD at e
  split at e
  · cases e
    refine ⟨_, op_add, fun vx vy g H Q w rx ry q => ?_⟩
    cases (show Rep _ _ _ _ from rx); cases (show Rep _ _ _ _ from ry)
    exact ⟨_, _, rfl, rfl, q.now w (.of (.int _))⟩
  · cases e
    refine ⟨_, op_sub, fun vx vy g H Q w rx ry q => ?_⟩
    cases (show Rep _ _ _ _ from rx); cases (show Rep _ _ _ _ from ry)
    exact ⟨_, _, rfl, rfl, q.now w (.of (.int _))⟩
  · split at e
    · rename_i hm
      cases e
      refine ⟨_, op_mulW, fun vx vy g H Q w rx ry q => ?_⟩
      cases (show Rep _ _ _ _ from rx); cases (show Rep _ _ _ _ from ry)
      exact ⟨_, _, rfl, rfl, (of_decide_eq_true hm : _ < 1000000), q.now w (.of (.int _))⟩
    · cases e
  · split at e
    · cases e
    · rename_i hj
      split at e
      · rename_i hm
        cases e
        refine ⟨_, op_fdivZ, fun vx vy g H Q w rx ry q => ?_⟩
        cases (show Rep _ _ _ _ from rx); cases (show Rep _ _ _ _ from ry)
        exact ⟨_, _, rfl, rfl, ⟨hj, of_decide_eq_true hm⟩, q.now w (.of (.int _))⟩
      · cases e
  · split at e
    · cases e
    · rename_i hj
      cases e
      refine ⟨_, op_modN, fun vx vy g H Q w rx ry q => ?_⟩
      cases (show Rep _ _ _ _ from rx); cases (show Rep _ _ _ _ from ry)
      exact ⟨_, _, rfl, rfl, hj, q.now w (.of (.int _))⟩
  · split at e
    · rename_i hm
      simp only [Bool.and_eq_true, decide_eq_true_eq] at hm
      cases e
      refine ⟨_, op_pow, fun vx vy g H Q w rx ry q => ?_⟩
      cases (show Rep _ _ _ _ from rx); cases (show Rep _ _ _ _ from ry)
      exact ⟨_, _, rfl, rfl, ⟨hm.1.1, hm.1.2, hm.2⟩, q.now w (.of (.int _))⟩
    · cases e
  · split at e
    · rename_i hm
      cases e
      refine ⟨_, op_add_str, fun vx vy g H Q w rx ry q => ?_⟩
      cases (show Rep _ _ _ _ from rx); cases (show Rep _ _ _ _ from ry)
      exact ⟨_, _, rfl, rfl, by rw [← line_eq]; exact of_decide_eq_true hm, q.now w (.of (.str _))⟩
    · cases e
  · split at e
    · rename_i hm
      cases e
      refine ⟨_, op_catT, fun vx vy g H Q w rx ry q => ?_⟩
      obtain ⟨a, xs, rfl, hs, hl⟩ := rx.tuple w
      obtain ⟨b, ys, rfl, hs2, hl2⟩ := ry.tuple w
      have hm' := of_decide_eq_true hm
      refine ⟨a, b, xs, ys, rfl, rfl, hs, hs2, ?_, ?_, ?_, ?_⟩
      · intro z
        subst z
        have := hl.len
        simp at this
      · rw [hl.len, hl2.len, ← line_eq]; exact hm'
      · intro z
        subst z
        cases hl2
        rw [List.append_nil] at q
        exact q.now w rx
      · intro _ p hp
        exact q.newTup w (hl.append hl2) p hp
    · cases e
  · cases e
end
end MP

set_option maxHeartbeats 1000000
/-! MiniPy: expressions, further. -/
namespace MP
open PySem PySem.Spec PyProof.Rows L2
section
variable {ob : Ob} {Φ : Nat → List D → Option D} {X : Cx} {Γ : Gam} {k : Nat} {g : Gh} {H : Hp} {σ : L2.St} {ρ : Rho}
theorem and2 {a b : Bool} (h : (a && b) = true) : a = true ∧ b = true := by simpa using h

theorem binD_lst {op : BOp} {x y : D} {ds : List D} (e : binD op x y = some (.lst ds)) : False := by
  unfold binD at e
  split at e <;> (try split at e) <;> (try split at e) <;> simp at e
theorem snd_bin {op : BOp} {a b : E} (ha : SndN ob Φ a) (hb : SndN ob Φ b) : SndE ob Φ (.bin op a b) := by
  -- what is asked of the text
  have txt : ∀ {Γ : Gam} {ex : Expr}, mE Γ (.bin op a b) ex = true → ∃ x y p, ex = .BinOp x (opO op) y p ∧ mE Γ a x = true ∧ mE Γ b y = true := by
    intro Γ ex m
    cases ex with
    | BinOp x o y p =>
      have m' : (opB op o && mE Γ a x && mE Γ b y) = true := m
      obtain ⟨m1, m3⟩ := and2 m'
      obtain ⟨m1, m2⟩ := and2 m1
      obtain rfl := opB_eq m1
      exact ⟨x, y, p, rfl, m2, m3⟩
    | _ => cases m
  have cat : ∀ {X : Cx} {Γ : Gam} {k : Nat} {ex : Expr} {g : Gh} {H : Hp} {σ : L2.St} {ρ : Rho} {da db : D} {ds : List D}, Here ob Φ X Γ k g H σ ρ → mE Γ (.bin op a b) ex = true → evE Φ a ρ = some da → evE Φ b ρ = some db → op = .add → catD da db = some ds →
      ∀ Q, PostL ob X.K g H ds Q → wpE X ex σ H Q := by
    intro X Γ k ex g H σ ρ da db ds h m ea eb hop ec Q q
    obtain ⟨x, y, p, rfl, ma, mb⟩ := txt m
    subst hop
    refine (pe_op op_catR pe_wp pe_wp).wp (two ha hb h ma mb ea eb fun va vb g' H' xt ra rb => ?_)
    unfold catD at ec
    split at ec
    · rename_i xs ys e1 e2
      split at ec
      · rename_i hl
        cases ec
        obtain ⟨l, vs, rfl, r1, l1⟩ := ra.list xt.ok e1
        obtain ⟨l', vs', rfl, r2, l2⟩ := rb.list xt.ok e2
        refine ⟨l, l', vs, vs', rfl, rfl, r1, r2, ?_, fun p hp => (q.ext xt).new xt.ok (l1.append l2) p hp⟩
        rw [l1.len, l2.len, ← line_eq]
        exact of_decide_eq_true hl
      · cases ec
    · cases ec
  have ev : ∀ {ρ : Rho} {d : D}, evE Φ (.bin op a b) ρ = some d → ∃ da db, evE Φ a ρ = some da ∧ evE Φ b ρ = some db ∧ ((op = .add ∧ ∃ ds, catD da db = some ds ∧ d = .lst ds) ∨ binD op da db = some d) := by
    intro ρ d e
    simp only [evE] at e
    split at e
    · rename_i x y ea eb
      refine ⟨x, y, ea, eb, ?_⟩
      split at e
      · rename_i ds ec
        cases e
        exact .inl ⟨rfl, ds, ec, rfl⟩
      · exact .inr e
    · cases e
  refine ⟨fun {X Γ k ex g H σ ρ d} h m e Q q => ?_, fun _ => fun {X Γ k ex g H σ ρ ds} h m e Q q => ?_⟩
  · obtain ⟨da, db, ea, eb, ⟨hop, ds, ec, rfl⟩ | e2⟩ := ev e
    · exact cat h m ea eb hop ec Q q.frz
    · obtain ⟨x, y, p, rfl, ma, mb⟩ := txt m
      obtain ⟨r, hr, hq⟩ := bin_op (ob := ob) (X := X) e2
      exact (pe_op hr pe_wp pe_wp).wp (two ha hb h ma mb ea eb fun va vb g' H' xt ra rb => hq va vb g' H' Q xt.ok ra rb (q.ext xt))
  · obtain ⟨da, db, ea, eb, ⟨hop, ds', ec, e'⟩ | e2⟩ := ev e
    · cases e'
      exact cat h m ea eb hop ec Q q
    · exact (binD_lst e2).elim
theorem snd_neg {a : E} (ha : SndN ob Φ a) : SndE ob Φ (.neg a) := by
  refine ⟨fun {X Γ k ex g H σ ρ d} h m e Q q => ?_, fun z => by cases z⟩
  cases ex with
  | UnaryOp o x p =>
    cases o with
    | USub =>
      simp only [evE] at e
      split at e
      · rename_i i ea
        cases e
        refine (pe_un un_neg pe_wp).wp (ha h m ea _ fun v g1 H1 x1 r1 => ?_)
        cases (show Rep _ _ _ _ from r1)
        exact ⟨_, rfl, (q.ext x1).now x1.ok (.of (.int _))⟩
      · cases e
    | _ => cases m
  | _ => cases m

/-! ### comparisons -/
def copO : COp → CmpOp
  | .lt => .Lt | .le => .LtE | .gt => .Gt | .ge => .GtE | .eq => .Eq | .ne => .NotEq | .is => .Is | .isnot => .IsNot
theorem copB_eq {op : COp} {o : CmpOp} (h : copB op o = true) : o = copO op := by
  cases op <;> cases o <;> first | rfl | cases h
theorem cop_mark (op : COp) (e : Expr) : behindInMarks (copO op) e = false := by
  cases op <;> exact nomark _
/-- a comparison by values: PostB wanted of the bool -/
def CmpV (ob : Ob) (X : Cx) (f : Value → Value → Sem Value) (x y : D) (b : Bool) : Prop := ∃ r, OpR X f r ∧ ∀ vx vy g H (Q : VK), WOk ob g H → RepR X.K g H vx x → RepR X.K g H vy y → Q (.bl b) H → r vx vy H Q
def isNonB : D → Bool | .non => true | _ => false
theorem isN_rep {K : PySem.W.Frag} {g : Gh} {H : Hp} {v : V} {x : D} (r : RepR K g H v x) (n : isOwn x = false) : decide (v = .non) = isNonB x := by
  have r' := r.pure n
  cases r' <;> rfl
theorem cmp_op {op : COp} {x y : D} {b : Bool} (hu : X.A.units + 64 < cLine) (e : cmpD op x y = some b) : CmpV ob X (compareOp (copO op)) x y b := by
  unfold cmpD at e
  split at e
  · -- eq
    unfold eqD at e
    split at e
    · rename_i p1 p2 e1 e2
      split at e
      · rename_i hs
        cases e
        simp only [Bool.and_eq_true] at hs
        exact ⟨_, op_eqD hu, fun vx vy g H Q w rx ry q => ⟨p1, p2, dp_ofR w rx e1, dp_ofR w ry e2, hs.1, hs.2, q⟩⟩
      · cases e
    · cases e
  · -- ne
    unfold eqD at e
    split at e
    · rename_i p1 p2 e1 e2
      split at e
      · rename_i hs
        cases e
        simp only [Bool.and_eq_true] at hs
        exact ⟨_, op_neD hu, fun vx vy g H Q w rx ry q => ⟨p1, p2, dp_ofR w rx e1, dp_ofR w ry e2, hs.1, hs.2, q⟩⟩
      · cases e
    · cases e
  · -- is None
    split at e
    · refine ⟨_, op_isN, fun vx vy g H Q w rx ry q => ?_⟩
      cases (show Rep _ _ _ _ from ry)
      have n : isOwn x = false := by cases x <;> first | rfl | cases e
      refine ⟨rfl, ?_⟩
      rw [isN_rep rx n]
      have : isNonB x = b := by cases x <;> first | (cases e; rfl) | cases e
      rw [this]
      exact q
    · cases e
  · -- is not None
    split at e
    · refine ⟨_, op_notN, fun vx vy g H Q w rx ry q => ?_⟩
      cases (show Rep _ _ _ _ from ry)
      have n : isOwn x = false := by cases x <;> first | rfl | cases e
      refine ⟨rfl, ?_⟩
      rw [isN_rep rx n]
      have : (!isNonB x) = b := by cases x <;> first | (cases e; rfl) | cases e
      rw [this]
      exact q
    · cases e
  · split at e
    · cases e
      refine ⟨_, op_lt, fun vx vy g H Q w rx ry q => ?_⟩
      cases (show Rep _ _ _ _ from rx); cases (show Rep _ _ _ _ from ry)
      exact ⟨_, _, rfl, rfl, q⟩
    · cases e
  · split at e
    · cases e
      refine ⟨_, op_le, fun vx vy g H Q w rx ry q => ?_⟩
      cases (show Rep _ _ _ _ from rx); cases (show Rep _ _ _ _ from ry)
      exact ⟨_, _, rfl, rfl, q⟩
    · cases e
  · split at e
    · cases e
      refine ⟨_, op_gt, fun vx vy g H Q w rx ry q => ?_⟩
      cases (show Rep _ _ _ _ from rx); cases (show Rep _ _ _ _ from ry)
      exact ⟨_, _, rfl, rfl, q⟩
    · cases e
  · split at e
    · cases e
      refine ⟨_, op_ge, fun vx vy g H Q w rx ry q => ?_⟩
      cases (show Rep _ _ _ _ from rx); cases (show Rep _ _ _ _ from ry)
      exact ⟨_, _, rfl, rfl, q⟩
    · cases e
theorem snd_cmp {op : COp} {a b : E} (ha : SndN ob Φ a) (hb : SndN ob Φ b) : SndE ob Φ (.cmp op a b) := by
  refine ⟨fun {X Γ k ex g H σ ρ d} h m e Q q => ?_, fun z => by cases z⟩
  have txt : ∃ x y p, ex = .Compare x [copO op] [y] p ∧ mE Γ a x = true ∧ mE Γ b y = true := by
    cases ex with
    | Compare x os ys p =>
      match os, ys, m with
      | [o], [y], m =>
        have m' : (copB op o && mE Γ a x && mE Γ b y) = true := m
        obtain ⟨m1, m3⟩ := and2 m'
        obtain ⟨m1, m2⟩ := and2 m1
        obtain rfl := copB_eq m1
        exact ⟨x, y, p, rfl, m2, m3⟩
    | _ => cases m
  obtain ⟨x, y, p, rfl, ma, mb⟩ := txt
  simp only [evE] at e
  split at e
  · rename_i da db ea eb
    cases ec : cmpD op da db with
    | none => rw [ec] at e; cases e
    | some c =>
      rw [ec] at e
      cases e
      obtain ⟨r, hr, hq⟩ := cmp_op (ob := ob) (X := X) h.f.room.units ec
      exact (pe_cmpR hr pe_wp pe_wp (cop_mark _ _)).wp (two ha hb h ma mb ea eb fun va vb g' H' xt ra rb => hq va vb g' H' Q xt.ok ra rb ((q.ext xt).now xt.ok (.of (.bl _))))
  · cases e
theorem snd_tcmp {op : COp} {a b : E} (ha : SndN ob Φ a) (hb : SndN ob Φ b) : SndT ob Φ (.cmp op a b) := by
  refine fun {X Γ k ex g H σ ρ d} h m e Q q => ?_
  have txt : ∃ x y p, ex = .Compare x [copO op] [y] p ∧ mE Γ a x = true ∧ mE Γ b y = true := by
    cases ex with
    | Compare x os ys p =>
      match os, ys, m with
      | [o], [y], m =>
        have m' : (copB op o && mE Γ a x && mE Γ b y) = true := m
        obtain ⟨m1, m3⟩ := and2 m'
        obtain ⟨m1, m2⟩ := and2 m1
        obtain rfl := copB_eq m1
        exact ⟨x, y, p, rfl, m2, m3⟩
    | _ => cases m
  obtain ⟨x, y, p, rfl, ma, mb⟩ := txt
  simp only [evT] at e
  split at e
  · rename_i da db ea eb
    obtain ⟨r, hr, hq⟩ := cmp_op (ob := ob) (X := X) h.f.room.units e
    exact (pt_cmpR hr pe_wp pe_wp (cop_mark _ _)).wp (two ha hb h ma mb ea eb fun va vb g' H' xt ra rb => hq va vb g' H' _ xt.ok ra rb ⟨_, rfl, (q.ext xt).now xt.ok⟩)
  · cases e
theorem last_mark (op op' : COp) (b c : Expr) : lastMarks [copO op, copO op'] [b, c] = false := by
  show behindInMarks (copO op') c = false
  exact cop_mark _ _
theorem snd_chain {op op' : COp} {a b c : E} (ha : SndN ob Φ a) (hb : SndN ob Φ b) (hc : SndN ob Φ c) : SndT ob Φ (.chain op op' a b c) := by
  refine fun {X Γ k ex g H σ ρ d} h m e Q q => ?_
  have txt : ∃ x y z p, ex = .Compare x [copO op, copO op'] [y, z] p ∧ mE Γ a x = true ∧ mE Γ b y = true ∧ mE Γ c z = true := by
    cases ex with
    | Compare x os ys p =>
      match os, ys, m with
      | [o, o'], [y, z], m =>
        have m' : (copB op o && copB op' o' && mE Γ a x && mE Γ b y && mE Γ c z) = true := m
        obtain ⟨m1, m5⟩ := and2 m'
        obtain ⟨m1, m4⟩ := and2 m1
        obtain ⟨m1, m3⟩ := and2 m1
        obtain ⟨m1, m2⟩ := and2 m1
        obtain rfl := copB_eq m1
        obtain rfl := copB_eq m2
        exact ⟨x, y, z, p, rfl, m3, m4, m5⟩
    | _ => cases m
  obtain ⟨x, y, z, p, rfl, ma, mb, mc⟩ := txt
  simp only [evT] at e
  split at e
  · rename_i da db ea eb
    split at e
    · rename_i e1 e2
      split at e
      · rename_i dc ec
        obtain ⟨r, hr, hq⟩ := cmp_op (ob := ob) (X := X) h.f.room.units e2
        obtain ⟨r', hr', hq'⟩ := cmp_op (ob := ob) (X := X) h.f.room.units e
        refine (pt_chain hr hr' pe_wp pe_wp pe_wp (last_mark op op' _ _)).wp ?_
        refine two ha hb h ma mb ea eb fun va vb g' H' xt ra rb => hq va vb g' H' _ xt.ok ra rb ⟨_, rfl, ?_⟩
        rw [if_pos rfl]
        exact hc (h.ext xt) mc ec _ fun vc g2 H2 x2 rc => hq' vb vc g2 H2 _ x2.ok (rb.ext x2) rc ⟨_, rfl, ((q.ext xt).ext x2).now x2.ok⟩
      · cases e
    · rename_i e1 e2
      cases e
      obtain ⟨r, hr, hq⟩ := cmp_op (ob := ob) (X := X) h.f.room.units e2
      obtain ⟨r', hr', _⟩ : ∃ r, OpR X (compareOp (copO op')) r ∧ True := ⟨fun _ _ _ _ => False, fun _ _ _ _ _ _ _ _ _ _ _ _ z => z.elim, trivial⟩
      refine (pt_chain hr hr' pe_wp pe_wp pe_wp (last_mark op op' _ _)).wp ?_
      refine two ha hb h ma mb ea eb fun va vb g' H' xt ra rb => hq va vb g' H' _ xt.ok ra rb ⟨_, rfl, ?_⟩
      rw [if_neg (by decide)]
      exact ⟨_, rfl, (q.ext xt).now xt.ok⟩
    · cases e
  · cases e
/-! ### truth -/
theorem tru_v {g : Gh} {H : Hp} {v : V} {d : D} {b : Bool} (w : WOk ob g H) (r : RepR X.K g H v d) (e : truD d = some b) : TruV X.K v H b := by
  cases d with
  | non => cases (show Rep _ _ _ _ from r); cases e; exact rfl
  | bl b => cases (show Rep _ _ _ _ from r); cases e; exact rfl
  | int i => cases (show Rep _ _ _ _ from r); cases e; exact rfl
  | str x =>
    cases (show Rep _ _ _ _ from r)
    have e' : (if decide (x.length ≤ line) = true then some ((x.length : Int) != 0) else none) = some b := e
    split at e'
    · rename_i hl
      cases e'
      exact ⟨by rw [← line_eq]; exact of_decide_eq_true hl, rfl⟩
    · cases e'
  | lst ds =>
    cases e
    obtain ⟨a, xs, rfl, h1, hl⟩ := r.list w rfl
    refine .inl ⟨xs, h1, ?_⟩
    have := hl.len
    cases ds <;> cases xs <;> first | rfl | cases this
  | own ds =>
    cases e
    obtain ⟨a, xs, rfl, h1, hl⟩ := r.list w rfl
    refine .inl ⟨xs, h1, ?_⟩
    have := hl.len
    cases ds <;> cases xs <;> first | rfl | cases this
  | tup ds =>
    cases e
    obtain ⟨a, xs, rfl, h1, hl⟩ := r.tuple w
    refine .inr (.inl ⟨xs, h1, ?_⟩)
    have := hl.len
    cases ds <;> cases xs <;> first | rfl | cases this
  | obj t d => cases e
theorem snd_tru {a : E} (ha : SndN ob Φ a) : SndT ob Φ (.tru a) := by
  refine fun {X Γ k ex g H σ ρ d} h m e Q q => ?_
  have m' : (plainT ex && mE Γ a ex) = true := by
    cases ex <;> exact m
  obtain ⟨m1, m2⟩ := and2 m'
  simp only [evT] at e
  split at e
  · rename_i d' ea
    refine (pt_truth pe_wp (fun whole => ?_)).wp (ha h m2 ea _ fun v g1 H1 x1 r1 => ⟨_, tru_v x1.ok r1 e, (q.ext x1).now x1.ok⟩)
    cases ex <;> first | rfl | cases m1
  · cases e
theorem snd_tnot {t : T} (ht : SndT ob Φ t) : SndT ob Φ (.not t) := by
  refine fun {X Γ k ex g H σ ρ b} h m e Q q => ?_
  cases ex with
  | UnaryOp o x p =>
    cases o with
    | Not =>
      simp only [evT] at e
      cases et : evT Φ t ρ with
      | none => rw [et] at e; cases e
      | some c =>
        rw [et] at e
        cases e
        exact (pt_not pt_wp).wp (ht h m et (fun c H1 => Q (!c) H1) fun g1 H1 x1 => q g1 H1 x1)
    | _ => cases m
  | _ => cases m
def SndTsA (ob : Ob) (Φ : Nat → List D → Option D) (ts : Ts) : Prop := ∀ {X : Cx} {Γ : Gam} {k : Nat} {xs : List Expr} {p : Pos} {g : Gh} {H : Hp} {σ : L2.St} {ρ : Rho} {b : Bool}, Here ob Φ X Γ k g H σ ρ → mTs Γ ts xs = true → xs ≠ [] → evAll Φ ts ρ = some b → ∀ Q, PostB ob g H b Q → wpW X (.BoolOp .And xs p) σ H Q
def SndTsO (ob : Ob) (Φ : Nat → List D → Option D) (ts : Ts) : Prop := ∀ {X : Cx} {Γ : Gam} {k : Nat} {xs : List Expr} {p : Pos} {g : Gh} {H : Hp} {σ : L2.St} {ρ : Rho} {b : Bool}, Here ob Φ X Γ k g H σ ρ → mTs Γ ts xs = true → xs ≠ [] → evAny Φ ts ρ = some b → ∀ Q, PostB ob g H b Q → wpW X (.BoolOp .Or xs p) σ H Q
theorem snd_all_nil : SndTsA ob Φ .nil := by
  refine fun {X Γ k xs p g H σ ρ b} h m n e Q q => ?_
  cases xs with
  | nil => exact absurd rfl n
  | cons x xs => cases m
theorem snd_any_nil : SndTsO ob Φ .nil := by
  refine fun {X Γ k xs p g H σ ρ b} h m n e Q q => ?_
  cases xs with
  | nil => exact absurd rfl n
  | cons x xs => cases m
theorem snd_all_cons {t : T} {ts : Ts} (ht : SndT ob Φ t) (hs : SndTsA ob Φ ts) : SndTsA ob Φ (.cons t ts) := by
  refine fun {X Γ k xs p g H σ ρ b} h m n e Q q => ?_
  cases xs with
  | nil => exact absurd rfl n
  | cons x xs =>
    obtain ⟨m1, m2⟩ := and2 (show (mT Γ t x && mTs Γ ts xs) = true from m)
    simp only [evAll] at e
    cases xs with
    | nil =>
      have : ts = .nil := by cases ts <;> first | rfl | cases m2
      subst this
      refine (pw_and1 pt_wp).wp (ht h m1 (b := b) ?_ Q q)
      revert e
      cases evT Φ t ρ with
      | none => intro e; cases e
      | some c => cases c <;> exact fun e => e
    | cons y ys =>
      refine (pw_and pt_wp pw_wp).wp ?_
      cases et : evT Φ t ρ with
      | none => rw [et] at e; cases e
      | some c =>
        rw [et] at e
        cases c with
        | true =>
          refine ht h m1 et _ fun g1 H1 x1 => ?_
          show (if true = true then _ else _)
          rw [if_pos rfl]
          exact hs (h.ext x1) m2 (by simp) e Q (q.ext x1)
        | false =>
          cases e
          refine ht h m1 et _ fun g1 H1 x1 => ?_
          show (if false = true then _ else _)
          rw [if_neg (by decide)]
          exact (q.ext x1).now x1.ok
theorem snd_any_cons {t : T} {ts : Ts} (ht : SndT ob Φ t) (hs : SndTsO ob Φ ts) : SndTsO ob Φ (.cons t ts) := by
  refine fun {X Γ k xs p g H σ ρ b} h m n e Q q => ?_
  cases xs with
  | nil => exact absurd rfl n
  | cons x xs =>
    obtain ⟨m1, m2⟩ := and2 (show (mT Γ t x && mTs Γ ts xs) = true from m)
    simp only [evAny] at e
    cases xs with
    | nil =>
      have : ts = .nil := by cases ts <;> first | rfl | cases m2
      subst this
      refine (pw_or1 pt_wp).wp (ht h m1 (b := b) ?_ Q q)
      revert e
      cases evT Φ t ρ with
      | none => intro e; cases e
      | some c => cases c <;> exact fun e => e
    | cons y ys =>
      refine (pw_or pt_wp pw_wp).wp ?_
      cases et : evT Φ t ρ with
      | none => rw [et] at e; cases e
      | some c =>
        rw [et] at e
        cases c with
        | false =>
          refine ht h m1 et _ fun g1 H1 x1 => ?_
          show (if false = true then _ else _)
          rw [if_neg (by decide)]
          exact hs (h.ext x1) m2 (by simp) e Q (q.ext x1)
        | true =>
          cases e
          refine ht h m1 et _ fun g1 H1 x1 => ?_
          show (if true = true then _ else _)
          rw [if_pos rfl]
          exact (q.ext x1).now x1.ok
theorem snd_tand {ts : Ts} (hs : SndTsA ob Φ ts) : SndT ob Φ (.and ts) := by
  refine fun {X Γ k ex g H σ ρ b} h m e Q q => ?_
  cases ex with
  | BoolOp o xs p =>
    cases o with
    | And =>
      obtain ⟨m1, m2⟩ := and2 (show (mTs Γ ts xs && !xs.isEmpty) = true from m)
      refine (PW.pt pw_wp).wp (hs h m1 (fun z => by subst z; cases m2) (by simpa only [evT] using e) Q q)
    | Or => cases m
  | _ => cases m
theorem snd_tor {ts : Ts} (hs : SndTsO ob Φ ts) : SndT ob Φ (.or ts) := by
  refine fun {X Γ k ex g H σ ρ b} h m e Q q => ?_
  cases ex with
  | BoolOp o xs p =>
    cases o with
    | Or =>
      obtain ⟨m1, m2⟩ := and2 (show (mTs Γ ts xs && !xs.isEmpty) = true from m)
      refine (PW.pt pw_wp).wp (hs h m1 (fun z => by subst z; cases m2) (by simpa only [evT] using e) Q q)
    | And => cases m
  | _ => cases m
end
end MP

set_option maxHeartbeats 1000000
/-! MiniPy: displays, items, slices, calls. -/
namespace MP
open PySem PySem.Spec PyProof.Rows L2
section
variable {ob : Ob} {Φ : Nat → List D → Option D} {X : Cx} {Γ : Gam} {k : Nat} {g : Gh} {H : Hp} {σ : L2.St} {ρ : Rho}
/-! ### lists of arguments -/
theorem snd_es_nil : SndEs ob Φ .nil := by
  refine fun {X Γ k es g H σ ρ ds} h m e Q q => ?_
  cases es with
  | nil =>
    cases (show some [] = some ds from e)
    exact PA.wp pa_nil (q [] g H (Ext.refl h.w) .nil)
  | cons x xs => cases m
theorem snd_es_cons {c : E} {cs : Es} (hc : SndN ob Φ c) (hs : SndEs ob Φ cs) : SndEs ob Φ (.cons c cs) := by
  refine fun {X Γ k es g H σ ρ ds} h m e Q q => ?_
  cases es with
  | nil => cases m
  | cons x xs =>
    obtain ⟨m1, m2⟩ := and2 (show (mE Γ c x && mEs Γ cs xs) = true from m)
    simp only [evEs] at e
    split at e
    · rename_i d ds' e1 e2
      cases e
      obtain ⟨e1, e3⟩ := pure_some e1
      refine (pa_cons pe_wp pa_wp (star_cons m1 xs X.env)).wp (hc h m1 e1 _ fun v g1 H1 x1 r1 => ?_)
      refine hs (h.ext x1) m2 e2 _ fun vs g2 H2 x2 r2 => ?_
      exact q _ _ _ (x1.trans x2) (.cons (Rep.mono x2.le _ _ (r1.pure e3)) r2)
    · cases e
theorem snd_ps_nil : SndPs ob Φ .nil := by
  refine fun {X Γ k es g H σ ρ ds} h m e Q q => ?_
  cases es with
  | nil =>
    cases (show some [] = some ds from e)
    exact PA.wp pa_nil (q [] g H (Ext.refl h.w) .nil)
  | cons x xs => cases m
theorem snd_ps_cons {c : E} {cs : Es} (hc : SndN ob Φ c) (hs : SndPs ob Φ cs) : SndPs ob Φ (.cons c cs) := by
  refine fun {X Γ k es g H σ ρ ds} h m e Q q => ?_
  cases es with
  | nil => cases m
  | cons x xs =>
    obtain ⟨m1, m2⟩ := and2 (show (mE Γ c x && mEs Γ cs xs) = true from m)
    simp only [evPs] at e
    split at e
    · rename_i d ds' e1 e2
      cases e
      refine (pa_cons pe_wp pa_wp (star_cons m1 xs X.env)).wp (hc h m1 e1 _ fun v g1 H1 x1 r1 => ?_)
      refine hs (h.ext x1) m2 e2 _ fun vs g2 H2 x2 r2 => ?_
      exact q _ _ _ (x1.trans x2) (.cons (r1.ext x2) r2)
    · cases e
/-! ### displays -/
theorem snd_tup {cs : Es} (hs : SndEs ob Φ cs) : SndE ob Φ (.tup cs) := by
  refine ⟨fun {X Γ k ex g H σ ρ d} h m e Q q => ?_, fun z => by cases z⟩
  cases ex with
  | Tuple xs kk p =>
    simp only [evE] at e
    split at e
    · rename_i ds e1
      split at e
      · rename_i hl
        cases e
        refine (pe_tup pa_wp).wp (hs h (show mEs Γ cs xs = true from m) e1 _ fun vs g1 H1 x1 r1 => ⟨?_, fun p hp => (q.ext x1).newTup x1.ok r1 p hp⟩)
        rw [r1.len, ← line_eq]
        exact of_decide_eq_true hl
      · cases e
    · cases e
  | _ => cases m
theorem snd_lst {cs : Es} (hs : SndEs ob Φ cs) : SndE ob Φ (.lst cs) := by
  have key : ∀ {X : Cx} {Γ : Gam} {k : Nat} {ex : Expr} {g : Gh} {H : Hp} {σ : L2.St} {ρ : Rho} {d : D}, Here ob Φ X Γ k g H σ ρ → mE Γ (.lst cs) ex = true → evE Φ (.lst cs) ρ = some d → ∃ ds, d = .lst ds ∧ ∀ Q, PostL ob X.K g H ds Q → wpE X ex σ H Q := by
    intro X Γ k ex g H σ ρ d h m e
    cases ex with
    | List xs p =>
      simp only [evE] at e
      split at e
      · rename_i ds e1
        split at e
        · rename_i hl
          cases e
          refine ⟨ds, rfl, fun Q q => (pe_lst pa_wp).wp (hs h (show mEs Γ cs xs = true from m) e1 _ fun vs g1 H1 x1 r1 => ⟨?_, fun p hp => (q.ext x1).new x1.ok r1 p hp⟩)⟩
          rw [r1.len, ← line_eq]
          exact of_decide_eq_true hl
        · cases e
      · cases e
    | _ => cases m
  refine ⟨fun {X Γ k ex g H σ ρ d} h m e Q q => ?_, fun _ => fun {X Γ k ex g H σ ρ ds} h m e Q q => ?_⟩
  · obtain ⟨ds, rfl, z⟩ := key h m e
    exact z Q q.frz
  · obtain ⟨ds', e', z⟩ := key h m e
    cases e'
    exact z Q q
/-! ### and, or, not, if as values -/
def SndAnd (ob : Ob) (Φ : Nat → List D → Option D) (cs : Es) : Prop := ∀ {X : Cx} {Γ : Gam} {k : Nat} {xs : List Expr} {p : Pos} {g : Gh} {H : Hp} {σ : L2.St} {ρ : Rho} {d : D}, Here ob Φ X Γ k g H σ ρ → mEs Γ cs xs = true → evAnd Φ cs ρ = some d → ∀ Q, PostE ob X.K g H d Q → wpE X (.BoolOp .And xs p) σ H Q
def SndOr (ob : Ob) (Φ : Nat → List D → Option D) (cs : Es) : Prop := ∀ {X : Cx} {Γ : Gam} {k : Nat} {xs : List Expr} {p : Pos} {g : Gh} {H : Hp} {σ : L2.St} {ρ : Rho} {d : D}, Here ob Φ X Γ k g H σ ρ → mEs Γ cs xs = true → evOr Φ cs ρ = some d → ∀ Q, PostE ob X.K g H d Q → wpE X (.BoolOp .Or xs p) σ H Q
theorem snd_and_nil : SndAnd ob Φ .nil := fun h m e => by cases (show none = some _ from e)
theorem snd_or_nil : SndOr ob Φ .nil := fun h m e => by cases (show none = some _ from e)
theorem snd_and_cons {c : E} {cs : Es} (hc : SndN ob Φ c) (hs : SndAnd ob Φ cs) : SndAnd ob Φ (.cons c cs) := by
  refine fun {X Γ k xs p g H σ ρ d} h m e Q q => ?_
  cases xs with
  | nil => cases m
  | cons x xs =>
    obtain ⟨m1, m2⟩ := and2 (show (mE Γ c x && mEs Γ cs xs) = true from m)
    cases cs with
    | nil =>
      have : xs = [] := by cases xs <;> first | rfl | cases m2
      subst this
      simp only [evAnd] at e
      obtain ⟨e1, _⟩ := pure_some e
      exact (pe_one pe_wp).wp (hc h m1 e1 Q q)
    | cons c' cs' =>
      cases xs with
      | nil => cases m2
      | cons y ys =>
        simp only [evAnd] at e
        refine (pe_and pe_wp pe_wp).wp ?_
        split at e
        · rename_i e1
          refine hc h m1 e1 _ fun v g1 H1 x1 r1 => ?_
          cases (show Rep _ _ _ _ from r1)
          refine ⟨true, rfl, ?_⟩
          rw [if_pos rfl]
          exact hs (h.ext x1) m2 (by simpa only [evAnd] using e) Q (q.ext x1)
        · rename_i e1
          cases e
          refine hc h m1 e1 _ fun v g1 H1 x1 r1 => ?_
          cases (show Rep _ _ _ _ from r1)
          refine ⟨false, rfl, ?_⟩
          rw [if_neg (by decide)]
          exact (q.ext x1).now x1.ok (.of (.bl _))
        · cases e
theorem snd_or_cons {c : E} {cs : Es} (hc : SndN ob Φ c) (hs : SndOr ob Φ cs) : SndOr ob Φ (.cons c cs) := by
  refine fun {X Γ k xs p g H σ ρ d} h m e Q q => ?_
  cases xs with
  | nil => cases m
  | cons x xs =>
    obtain ⟨m1, m2⟩ := and2 (show (mE Γ c x && mEs Γ cs xs) = true from m)
    cases cs with
    | nil =>
      have : xs = [] := by cases xs <;> first | rfl | cases m2
      subst this
      simp only [evOr] at e
      obtain ⟨e1, _⟩ := pure_some e
      exact (pe_one pe_wp).wp (hc h m1 e1 Q q)
    | cons c' cs' =>
      cases xs with
      | nil => cases m2
      | cons y ys =>
        simp only [evOr] at e
        refine (pe_or pe_wp pe_wp).wp ?_
        split at e
        · rename_i e1
          refine hc h m1 e1 _ fun v g1 H1 x1 r1 => ?_
          cases (show Rep _ _ _ _ from r1)
          refine ⟨false, rfl, ?_⟩
          rw [if_neg (by decide)]
          exact hs (h.ext x1) m2 (by simpa only [evOr] using e) Q (q.ext x1)
        · rename_i e1
          cases e
          refine hc h m1 e1 _ fun v g1 H1 x1 r1 => ?_
          cases (show Rep _ _ _ _ from r1)
          refine ⟨true, rfl, ?_⟩
          rw [if_pos rfl]
          exact (q.ext x1).now x1.ok (.of (.bl _))
        · cases e
theorem snd_andV {cs : Es} (hs : SndAnd ob Φ cs) : SndE ob Φ (.andV cs) := by
  refine ⟨fun {X Γ k ex g H σ ρ d} h m e Q q => ?_, fun z => by cases z⟩
  cases ex with
  | BoolOp o xs p =>
    cases o with
    | And => exact hs h (show mEs Γ cs xs = true from m) (by simpa only [evE] using e) Q q
    | Or => cases m
  | _ => cases m
theorem snd_orV {cs : Es} (hs : SndOr ob Φ cs) : SndE ob Φ (.orV cs) := by
  refine ⟨fun {X Γ k ex g H σ ρ d} h m e Q q => ?_, fun z => by cases z⟩
  cases ex with
  | BoolOp o xs p =>
    cases o with
    | Or => exact hs h (show mEs Γ cs xs = true from m) (by simpa only [evE] using e) Q q
    | And => cases m
  | _ => cases m
theorem snd_notV {c : E} (hc : SndN ob Φ c) : SndE ob Φ (.notV c) := by
  refine ⟨fun {X Γ k ex g H σ ρ d} h m e Q q => ?_, fun z => by cases z⟩
  cases ex with
  | UnaryOp o x p =>
    cases o with
    | Not =>
      simp only [evE] at e
      split at e
      · rename_i b e1
        cases e
        refine (pe_not pe_wp).wp (hc h (show mE Γ c x = true from m) e1 _ fun v g1 H1 x1 r1 => ?_)
        cases (show Rep _ _ _ _ from r1)
        exact ⟨b, rfl, (q.ext x1).now x1.ok (.of (.bl _))⟩
      · cases e
    | _ => cases m
  | _ => cases m
theorem snd_ite {t : T} {a b : E} (ht : SndT ob Φ t) (ha : SndN ob Φ a) (hb : SndN ob Φ b) : SndE ob Φ (.ite t a b) := by
  refine ⟨fun {X Γ k ex g H σ ρ d} h m e Q q => ?_, fun z => by cases z⟩
  cases ex with
  | IfExp c x y p =>
    obtain ⟨m1, m3⟩ := and2 (show (mT Γ t c && mE Γ a x && mE Γ b y) = true from m)
    obtain ⟨m1, m2⟩ := and2 m1
    simp only [evE] at e
    refine (pe_ifExp pt_wp pe_wp pe_wp).wp ?_
    split at e
    · rename_i e1
      obtain ⟨e2, _⟩ := pure_some e
      refine ht h m1 e1 _ fun g1 H1 x1 => ?_
      show (if true = true then _ else _)
      rw [if_pos rfl]
      exact ha (h.ext x1) m2 e2 Q (q.ext x1)
    · rename_i e1
      obtain ⟨e2, _⟩ := pure_some e
      refine ht h m1 e1 _ fun g1 H1 x1 => ?_
      show (if false = true then _ else _)
      rw [if_neg (by decide)]
      exact hb (h.ext x1) m3 e2 Q (q.ext x1)
    · cases e
  | _ => cases m
/-! ### items, slices -/
theorem snd_idx {a b : E} (ha : SndN ob Φ a) (hb : SndN ob Φ b) : SndE ob Φ (.idx a b) := by
  refine ⟨fun {X Γ k ex g H σ ρ d} h m e Q q => ?_, fun z => by cases z⟩
  cases ex with
  | Subscript x y p =>
    have m' : (mE Γ a x && mE Γ b y) = true := by
      have n : (∀ l u s p, y ≠ .Slice l u s p) := by
        intro l u s p z
        subst z
        have m : (mE Γ (.idx a b) (.Subscript x (.Slice l u s p) _)) = true := m
        simp only [mE] at m
        obtain ⟨_, m2⟩ := and2 m
        cases b <;> simp [mE] at m2
      simpa only [mE] using m
    obtain ⟨m1, m2⟩ := and2 m'
    simp only [evE] at e
    split at e
    · rename_i da db ea eb
      unfold ixD at e
      split at e
      · refine (pe_ix ix_list pe_wp pe_wp (plain_ix m2)).wp (two ha hb h m1 m2 ea eb fun va vb g' H' xt ra rb => ?_)
        obtain ⟨l, xs, rfl, r1, hl⟩ := ra.list xt.ok rfl
        cases (show Rep _ _ _ _ from rb)
        obtain ⟨v, hv, rv⟩ := atI_rep hl e
        exact ⟨l, xs, _, v, rfl, rfl, r1, hv, (q.ext xt).now xt.ok (.of rv)⟩
      · refine (pe_ix ix_list pe_wp pe_wp (plain_ix m2)).wp (two ha hb h m1 m2 ea eb fun va vb g' H' xt ra rb => ?_)
        obtain ⟨l, xs, rfl, r1, hl⟩ := ra.list xt.ok rfl
        cases (show Rep _ _ _ _ from rb)
        obtain ⟨v, hv, rv⟩ := atI_rep hl e
        exact ⟨l, xs, _, v, rfl, rfl, r1, hv, (q.ext xt).now xt.ok (.of rv)⟩
      · refine (pe_ix ix_tup pe_wp pe_wp (plain_ix m2)).wp (two ha hb h m1 m2 ea eb fun va vb g' H' xt ra rb => ?_)
        obtain ⟨l, xs, rfl, r1, hl⟩ := ra.tuple xt.ok
        cases (show Rep _ _ _ _ from rb)
        obtain ⟨v, hv, rv⟩ := atI_rep hl e
        exact ⟨l, xs, _, v, rfl, rfl, r1, hv, (q.ext xt).now xt.ok (.of rv)⟩
      · split at e
        · rename_i hz
          rename_i z i
          refine (pe_ix ix_str pe_wp pe_wp (plain_ix m2)).wp (two ha hb h m1 m2 ea eb fun va vb g' H' xt ra rb => ?_)
          cases (show Rep _ _ _ _ from ra)
          cases (show Rep _ _ _ _ from rb)
          cases ec : atI z.cps.toList i with
          | none => rw [ec] at e; cases e
          | some c =>
            rw [ec] at e
            cases e
            exact ⟨z, i, c, rfl, rfl, by rw [← line_eq]; exact of_decide_eq_true hz, ec, (q.ext xt).now xt.ok (.of (.str _))⟩
        · cases e
      · cases e
    · cases e
  | _ => cases m
def SndO (ob : Ob) (Φ : Nat → List D → Option D) (c : O) : Prop := ∀ {X : Cx} {Γ : Gam} {k : Nat} {ex : Option Expr} {g : Gh} {H : Hp} {σ : L2.St} {ρ : Rho} {o : Option Int}, Here ob Φ X Γ k g H σ ρ → mO Γ c ex = true → evO Φ c ρ = some o →
  ∃ t : TO, PO X ex t ∧ ∀ g1 H1, Ext ob g H g1 H1 → ∀ Q : Option Int → Hp → Prop, (∀ g2 H2, Ext ob g1 H1 g2 H2 → Q o H2) → t σ H1 Q
theorem snd_o_none : SndO ob Φ .none := by
  refine fun {X Γ k ex g H σ ρ o} h m e => ?_
  cases ex with
  | none =>
    cases (show some none = some o from e)
    exact ⟨_, po_none, fun g1 H1 x1 Q q => q g1 H1 (Ext.refl x1.ok)⟩
  | some x => cases m
theorem snd_o_some {c : E} (hc : SndN ob Φ c) : SndO ob Φ (.some c) := by
  refine fun {X Γ k ex g H σ ρ o} h m e => ?_
  cases ex with
  | none => cases m
  | some x =>
    simp only [evO] at e
    split at e
    · rename_i i e1
      cases e
      refine ⟨_, po_some pe_wp, fun g1 H1 x1 Q q => hc (h.ext x1) (show mE Γ c x = true from m) e1 _ fun v g2 H2 x2 r2 => ?_⟩
      cases (show Rep _ _ _ _ from r2)
      exact ⟨i, rfl, q g2 H2 x2⟩
    · cases e
theorem snd_slc {a : E} {lo hi : O} (ha : SndN ob Φ a) (hl : SndO ob Φ lo) (hh : SndO ob Φ hi) : SndE ob Φ (.slc a lo hi) := by
  have key : ∀ {X : Cx} {Γ : Gam} {k : Nat} {ex : Expr} {g : Gh} {H : Hp} {σ : L2.St} {ρ : Rho} {d : D}, Here ob Φ X Γ k g H σ ρ → mE Γ (.slc a lo hi) ex = true → evE Φ (.slc a lo hi) ρ = some d → ∃ ds, d = .lst ds ∧ ∀ Q, PostL ob X.K g H ds Q → wpE X ex σ H Q := by
    intro X Γ k ex g H σ ρ d h m e
    cases ex with
    | Subscript x y p =>
      cases y with
      | Slice l u s p2 =>
        cases s with
        | none =>
          obtain ⟨m1, m3⟩ := and2 (show (mE Γ a x && mO Γ lo l && mO Γ hi u) = true from m)
          obtain ⟨m1, m2⟩ := and2 m1
          have fin : ∀ {da : D} {ds : List D} {i j : Option Int}, evE Φ a ρ = some da → seen da = .lst ds → evO Φ lo ρ = some i → evO Φ hi ρ = some j → ∀ Q, PostL ob X.K g H (cutD ds i j) Q → wpE X (.Subscript x (.Slice l u none p2) p) σ H Q := by
            intro da ds i j ea es ei ej Q q
            obtain ⟨tl, pl, hl'⟩ := hl h m2 ei
            obtain ⟨th, ph, hh'⟩ := hh h m3 ej
            refine (pe_slice sl_list pe_wp pl ph).wp (ha h m1 ea _ fun v g1 H1 x1 r1 => ?_)
            refine hl' g1 H1 x1 _ fun g2 H2 x2 => hh' g2 H2 (x1.trans x2) _ fun g3 H3 x3 => ?_
            have xt := (x1.trans x2).trans x3
            obtain ⟨b, xs, rfl, rb, rl⟩ := ((r1.ext x2).ext x3).list xt.ok es
            exact ⟨b, xs, rfl, rb, fun p hp => (q.ext xt).new xt.ok (rl.cut i j) p hp⟩
          simp only [evE] at e
          split at e
          · rename_i ds i j ea ei ej
            cases e
            exact ⟨_, rfl, fin ea rfl ei ej⟩
          · rename_i ds i j ea ei ej
            cases e
            exact ⟨_, rfl, fin ea rfl ei ej⟩
          · cases e
        | some s => cases m
      | _ => cases m
    | _ => cases m
  refine ⟨fun {X Γ k ex g H σ ρ d} h m e Q q => ?_, fun _ => fun {X Γ k ex g H σ ρ ds} h m e Q q => ?_⟩
  · obtain ⟨ds, rfl, z⟩ := key h m e
    exact z Q q.frz
  · obtain ⟨ds', e', z⟩ := key h m e
    cases e'
    exact z Q q
/-! ### calls -/
theorem rep_ints : ∀ (ns : List Int), RepL X.K g (ns.map V.int) (ns.map D.int) := RepL.ints
theorem snd_call {f : Nat} {cs : Es} {dv : List Int} (hs : SndEs ob Φ cs) : SndE ob Φ (.call f cs dv) := by
  refine ⟨fun {X Γ k ex g H σ ρ d} h m e Q q => ?_, fun z => by cases z⟩
  cases ex with
  | Call fn xs kws p =>
    cases fn with
    | Name x p2 =>
      cases kws with
      | nil =>
        obtain ⟨m1, m5⟩ := and2 (show (decide (Γ.fname f = some x) && glB Γ.sc x && !(x == ("__debug__" : Str)) && decide (dv ∈ Γ.dfl f) && mEs Γ cs xs) = true from m)
        obtain ⟨m1, m4⟩ := and2 m1
        obtain ⟨m1, m3⟩ := and2 m1
        obtain ⟨m1, m2⟩ := and2 m1
        obtain ⟨a, fd, ps, g1, g2, F, gb⟩ := h.f.fn f x (of_decide_eq_true m1)
        obtain ⟨us, r, b⟩ := gb dv (of_decide_eq_true m4)
        have hdb : (x == ("__debug__" : Str)) = false := by simpa using m3
        simp only [evE] at e
        split at e
        · rename_i ds e1
          have fin : ∀ (vs : List V) (g' : Gh) (H' : Hp), Ext ob g H g' H' → RepL X.K g' vs ds → spF ob X.K (Φ f) (vs ++ dv.map V.int) H' Q E0 := fun vs g' H' xt rl =>
            ⟨g', _, d, xt.ok, rl.append (RepL.ints dv), e, fun v g2 H2 x2 r2 => (q.ext xt) v g2 H2 x2 (.of r2)⟩
          cases xs with
          | nil =>
            have : cs = .nil := by cases cs <;> first | rfl | cases m5
            subst this
            cases (show some [] = some ds from e1)
            exact (pe_call0 F h.f.room (gl_of h.c m2) g1 g2 b r pass0 hdb).wp (fin [] g H (Ext.refl h.w) .nil)
          | cons y ys =>
            cases cs with
            | nil => cases m5
            | cons c cs =>
              obtain ⟨m6, m7⟩ := and2 (show (mE Γ c y && mEs Γ cs ys) = true from m5)
              refine (pe_call F h.f.room (gl_of h.c m2) g1 g2 b r pass0 pa_wp hdb (star_cons m6 ys X.env) (star_none m7)).wp ?_
              exact hs h m5 e1 _ fun vs g' H' xt rl => fin vs g' H' xt rl
        · cases e
      | cons _ _ => cases m
    | _ => cases m
  | _ => cases m
end
end MP

set_option maxHeartbeats 1000000
/-! MiniPy: built-ins. -/
namespace MP
open PySem PySem.Spec PyProof.Rows L2
section
variable {ob : Ob} {Φ : Nat → List D → Option D} {X : Cx} {Γ : Gam} {k : Nat} {g : Gh} {H : Hp} {σ : L2.St} {ρ : Rho}
def dTy : D → Option String
  | .non => some "NoneType" | .bl _ => some "bool" | .int _ => some "int" | .str _ => some "str" | .tup _ => some "tuple" | .lst _ => some "list" | _ => none
theorem dTy_ty {v : V} {d : D} {t : String} (w : WOk ob g H) (r : RepR X.K g H v d) (e : dTy d = some t) : TyX X.K H v (.type t) := by
  cases d with
  | non => cases (show Rep _ _ _ _ from r); cases e; exact .base .non
  | bl b => cases (show Rep _ _ _ _ from r); cases e; exact .base (.bl _)
  | int i => cases (show Rep _ _ _ _ from r); cases e; exact .base (.int _)
  | str x => cases (show Rep _ _ _ _ from r); cases e; exact .base (.str _)
  | tup ds =>
    cases e
    obtain ⟨a, xs, rfl, h1, hl⟩ := r.tuple w
    rcases h1 with (h1 | ⟨o, h1⟩) | ⟨o, its, n, hk, hc, _⟩
    · exact .base (.tup h1)
    · exact .fTuple h1
    · exact .kTuple hk hc
  | lst ds =>
    cases e
    obtain ⟨a, xs, rfl, h1, hl⟩ := r.list w rfl
    rcases h1 with (h1 | ⟨o, h1⟩) | ⟨o, its, n, hk, hc, _⟩
    · exact .base (.lst h1)
    · exact .base (.frz h1)
    · exact .kList hk hc
  | own ds => cases e
  | obj t d => cases e
theorem isi_kit {p : Pm} {d e : D} {x : Str} {cn : String} (h : primD p [d] = some e) (hp : pcls p = some (x, cn)) : ∃ b t, e = .bl b ∧ dTy d = some t ∧ kitB t cn = some b := by
  cases p <;> cases hp <;> cases d <;> first
    | (cases h; done)
    | (cases h; exact ⟨_, _, rfl, rfl, by decide +kernel⟩)
theorem one_arg {cs : Es} {y : Expr} (m : mEs Γ cs [y] = true) : ∃ c, cs = .cons c .nil ∧ mE Γ c y = true := by
  cases cs with
  | nil => cases m
  | cons c cs =>
    obtain ⟨m1, m2⟩ := and2 (show (mE Γ c y && mEs Γ cs []) = true from m)
    cases cs with
    | nil => exact ⟨c, rfl, m1⟩
    | cons _ _ => cases m2
theorem evPs_one {c : E} {ds : List D} (e : evPs Φ (.cons c .nil) ρ = some ds) : ∃ d, ds = [d] ∧ evE Φ c ρ = some d := by
  simp only [evPs] at e
  split at e
  · rename_i d ds' e1 e2
    cases e2
    cases e
    exact ⟨d, rfl, e1⟩
  · cases e
/-- list(x) -/
def isListP : Pm → Bool | .list => true | _ => false
theorem fr_len : ("len" : Str) ∈ ([("len" : Str), "abs", "int", "list", "tuple", "isinstance", "range", "bool", "str"] : List Str) := by decide +kernel
theorem primD_lst {p : Pm} {es xs : List D} (e : primD p es = some (.lst xs)) : False := by
  unfold primD at e
  split at e <;> (try split at e) <;> simp at e
theorem snd_prim {p : Pm} {cs : Es} (hs : ∀ c, cs = .cons c .nil → SndN ob Φ c) : SndE ob Φ (.prim p cs) := by
  have txt : ∀ {Γ : Gam} {ex : Expr}, mE Γ (.prim p cs) ex = true → ∃ y ys p1 p2, ex = .Call (.Name (pname p) p1) (y :: ys) [] p2 ∧ glB Γ.sc (pname p) = true ∧ ∃ c, cs = .cons c .nil ∧ mE Γ c y = true ∧
      ((pcls p = none ∧ ys = []) ∨ ∃ x cn p3, pcls p = some (x, cn) ∧ ys = [.Name x p3] ∧ glB Γ.sc x = true) := by
    intro Γ ex m
    cases ex with
    | Call fn xs kws pp =>
      cases fn with
      | Name x p2 =>
        cases kws with
        | nil =>
          simp only [mE] at m
          obtain ⟨m1, m3⟩ := and2 m
          obtain ⟨m1, m2⟩ := and2 m1
          obtain rfl := of_decide_eq_true m1
          split at m3
          · rename_i ep
            split at m3
            · rename_i y
              obtain ⟨c, ec, mc⟩ := one_arg m3
              exact ⟨_, _, _, _, rfl, m2, c, ec, mc, .inl ⟨ep, rfl⟩⟩
            · cases m3
          · rename_i cc cn ep
            split at m3
            · rename_i y z p3
              obtain ⟨m6, m5⟩ := and2 m3
              obtain ⟨m7, m4⟩ := and2 m6
              obtain rfl := of_decide_eq_true m4
              obtain ⟨c, ec, mc⟩ := one_arg m7
              exact ⟨_, _, _, _, rfl, m2, c, ec, mc, .inr ⟨_, _, _, ep, rfl, m5⟩⟩
            · cases m3
        | cons _ _ => cases m
      | _ => cases m
    | _ => cases m
  have ev : ∀ {ρ : Rho} {d : D} {c : E}, cs = .cons c .nil → evE Φ (.prim p cs) ρ = some d → ∃ dc, evE Φ c ρ = some dc ∧ ((p = .list ∧ ∃ xs, lst? dc = some xs ∧ d = .lst xs) ∨ primD p [dc] = some d) := by
    intro ρ d c ec e
    subst ec
    simp only [evE] at e
    split at e
    · rename_i ds e1
      obtain ⟨dc, rfl, e2⟩ := evPs_one e1
      refine ⟨dc, e2, ?_⟩
      split at e
      · rename_i d' ed
        cases ed
        split at e
        · rename_i xs e3
          cases e
          exact .inl ⟨rfl, xs, e3, rfl⟩
        · cases e
      · exact .inr e
    · cases e
  -- the argument, evaluated
  have arg : ∀ {X : Cx} {Γ : Gam} {k : Nat} {g : Gh} {H : Hp} {σ : L2.St} {ρ : Rho} {c : E} {y : Expr} {dc : D}, Here ob Φ X Γ k g H σ ρ → cs = .cons c .nil → mE Γ c y = true → evE Φ c ρ = some dc → ∀ {R : List V → Hp → Prop},
      (∀ v g' H', Ext ob g H g' H' → RepR X.K g' H' v dc → R [v] H') → wpA X [y] σ H R := by
    intro X Γ k g H σ ρ c y dc h ec mc e R post
    exact (pa_cons pe_wp pa_nil (star_cons mc [] X.env)).wp (hs c ec h mc e _ fun v g' H' xt r => post v g' H' xt r)
  have lst : ∀ {X : Cx} {Γ : Gam} {k : Nat} {ex : Expr} {g : Gh} {H : Hp} {σ : L2.St} {ρ : Rho} {c : E} {dc : D} {xs : List D}, Here ob Φ X Γ k g H σ ρ → mE Γ (.prim p cs) ex = true → cs = .cons c .nil → evE Φ c ρ = some dc → p = .list → lst? dc = some xs →
      ∀ Q, PostL ob X.K g H xs Q → wpE X ex σ H Q := by
    intro X Γ k ex g H σ ρ c dc xs h m ec e hp el Q q
    obtain ⟨y, ys, p1, p2, rfl, mg, c', ec', mc, alt⟩ := txt m
    rw [ec] at ec'
    cases ec'
    subst hp
    rcases alt with ⟨_, rfl⟩ | ⟨_, _, _, z, _⟩
    · refine (pe_callTy call_list_of (gl_of h.c mg) (h.f.bl _ (by simp [pname])) (by decide +kernel) pa_wp (he := star_cons mc [] X.env) (hpl := rfl)).wp ?_
      refine arg h ec mc e fun v g' H' xt r => ?_
      cases dc with
      | lst ds =>
        cases el
        obtain ⟨a, vs, rfl, h1, hl⟩ := r.list xt.ok rfl
        exact ⟨a, vs, rfl, .inl h1, fun l hl' => (q.ext xt).new xt.ok hl l hl'⟩
      | own ds =>
        cases el
        obtain ⟨a, vs, rfl, h1, hl⟩ := r.list xt.ok rfl
        exact ⟨a, vs, rfl, .inl h1, fun l hl' => (q.ext xt).new xt.ok hl l hl'⟩
      | tup ds =>
        cases el
        obtain ⟨a, vs, rfl, h1, hl⟩ := r.tuple xt.ok
        exact ⟨a, vs, rfl, .inr h1, fun l hl' => (q.ext xt).new xt.ok hl l hl'⟩
      | _ => cases el
    · cases z
  refine ⟨fun {X Γ k ex g H σ ρ d} h m e Q q => ?_, fun _ => fun {X Γ k ex g H σ ρ ds} h m e Q q => ?_⟩
  · obtain ⟨y, ys, p1, p2, rfl, mg, c, ec, mc, alt⟩ := txt m
    obtain ⟨dc, e1, ⟨hp, xs, el, rfl⟩ | e2⟩ := ev ec e
    · exact lst h m ec e1 hp el Q q.frz
    · rcases alt with ⟨hp, rfl⟩ | ⟨x, cn, p3, hp, rfl, gx⟩
      · -- one argument
        cases p with
        | len =>
          cases dc with
          | str z =>
            have e2' : (if decide (z.length ≤ line) = true then some (D.int (z.length : Int)) else none) = some d := e2
            split at e2'
            · rename_i hz
              cases e2'
              refine (pe_callB call_len_str (gl_of h.c mg) (h.f.bl _ (by simp [pname])) (by decide +kernel) pa_wp (he := star_cons mc [] X.env) (hpl := rfl)).wp (arg h ec mc e1 fun v g' H' xt r => ?_)
              cases (show Rep _ _ _ _ from r)
              exact ⟨z, rfl, by rw [← line_eq]; exact of_decide_eq_true hz, (q.ext xt).now xt.ok (.of (.int _))⟩
            · cases e2'
          | lst ds =>
            cases e2
            refine (pe_callB call_len_seq (gl_of h.c mg) (h.f.bl _ (by simp [pname])) (by decide +kernel) pa_wp (he := star_cons mc [] X.env) (hpl := rfl)).wp (arg h ec mc e1 fun v g' H' xt r => ?_)
            obtain ⟨a, vs, rfl, h1, hl⟩ := r.list xt.ok rfl
            refine ⟨a, vs, rfl, .inl h1, ?_⟩
            rw [hl.len]
            exact (q.ext xt).now xt.ok (.of (.int _))
          | own ds =>
            cases e2
            refine (pe_callB call_len_seq (gl_of h.c mg) (h.f.bl _ (by simp [pname])) (by decide +kernel) pa_wp (he := star_cons mc [] X.env) (hpl := rfl)).wp (arg h ec mc e1 fun v g' H' xt r => ?_)
            obtain ⟨a, vs, rfl, h1, hl⟩ := r.list xt.ok rfl
            refine ⟨a, vs, rfl, .inl h1, ?_⟩
            rw [hl.len]
            exact (q.ext xt).now xt.ok (.of (.int _))
          | tup ds =>
            cases e2
            refine (pe_callB call_len_seq (gl_of h.c mg) (h.f.bl _ (by simp [pname])) (by decide +kernel) pa_wp (he := star_cons mc [] X.env) (hpl := rfl)).wp (arg h ec mc e1 fun v g' H' xt r => ?_)
            obtain ⟨a, vs, rfl, h1, hl⟩ := r.tuple xt.ok
            refine ⟨a, vs, rfl, .inr h1, ?_⟩
            rw [hl.len]
            exact (q.ext xt).now xt.ok (.of (.int _))
          | _ => cases e2
        | abs =>
          cases dc with
          | int i =>
            cases e2
            refine (pe_callB call_abs (gl_of h.c mg) (h.f.bl _ (by simp [pname])) (by decide +kernel) pa_wp (he := star_cons mc [] X.env) (hpl := rfl)).wp (arg h ec mc e1 fun v g' H' xt r => ?_)
            cases (show Rep _ _ _ _ from r)
            exact ⟨i, rfl, (q.ext xt).now xt.ok (.of (.int _))⟩
          | _ => cases e2
        | int =>
          cases dc with
          | int i =>
            cases e2
            refine (pe_callTy call_int1 (gl_of h.c mg) (h.f.bl _ (by simp [pname])) (by decide +kernel) pa_wp (he := star_cons mc [] X.env) (hpl := rfl)).wp (arg h ec mc e1 fun v g' H' xt r => ?_)
            cases (show Rep _ _ _ _ from r)
            exact .inl ⟨i, rfl, (q.ext xt).now xt.ok (.of (.int _))⟩
          | bl b =>
            cases e2
            refine (pe_callTy call_int1 (gl_of h.c mg) (h.f.bl _ (by simp [pname])) (by decide +kernel) pa_wp (he := star_cons mc [] X.env) (hpl := rfl)).wp (arg h ec mc e1 fun v g' H' xt r => ?_)
            cases (show Rep _ _ _ _ from r)
            exact .inr ⟨b, rfl, (q.ext xt).now xt.ok (.of (.int _))⟩
          | _ => cases e2
        | list => cases dc <;> cases e2
        | tuple =>
          cases dc with
          | lst ds =>
            cases e2
            refine (pe_callTy call_tuple_of (gl_of h.c mg) (h.f.bl _ (by simp [pname])) (by decide +kernel) pa_wp (he := star_cons mc [] X.env) (hpl := rfl)).wp (arg h ec mc e1 fun v g' H' xt r => ?_)
            obtain ⟨a, vs, rfl, h1, hl⟩ := r.list xt.ok rfl
            exact ⟨a, vs, rfl, .inl ⟨h1, fun l hl' => (q.ext xt).newTup xt.ok hl l hl'⟩⟩
          | own ds =>
            cases e2
            refine (pe_callTy call_tuple_of (gl_of h.c mg) (h.f.bl _ (by simp [pname])) (by decide +kernel) pa_wp (he := star_cons mc [] X.env) (hpl := rfl)).wp (arg h ec mc e1 fun v g' H' xt r => ?_)
            obtain ⟨a, vs, rfl, h1, hl⟩ := r.list xt.ok rfl
            exact ⟨a, vs, rfl, .inl ⟨h1, fun l hl' => (q.ext xt).newTup xt.ok hl l hl'⟩⟩
          | tup ds =>
            cases e2
            refine (pe_callTy call_tuple_of (gl_of h.c mg) (h.f.bl _ (by simp [pname])) (by decide +kernel) pa_wp (he := star_cons mc [] X.env) (hpl := rfl)).wp (arg h ec mc e1 fun v g' H' xt r => ?_)
            obtain ⟨a, vs, rfl, h1, hl⟩ := RepR.tuple xt.ok r
            exact ⟨a, vs, rfl, .inr ⟨h1, (q.ext xt).now xt.ok r⟩⟩
          | _ => cases e2
        | _ => cases hp
      · -- isinstance
        obtain ⟨b, t, rfl, et, ek⟩ := isi_kit e2 hp
        have hpn : pname p = "isinstance" := by cases p <;> first | rfl | cases hp
        have hx : x ∈ ([("len" : Str), "abs", "int", "list", "tuple", "isinstance", "range", "bool", "str"] : List Str) ∧ bootBuiltins x = some (.type cn) ∧ x ≠ "__name__" ∧ (x == ("__debug__" : Str)) = false := by
          cases p <;> cases hp <;> exact ⟨by decide +kernel, by decide +kernel, by decide +kernel, by decide +kernel⟩
        rw [hpn] at mg ⊢
        have pz : PE X (.Name x p3) (tC (.ty cn)) := pe_bltn (gl_of h.c gx) (h.f.bl _ hx.1) hx.2.1 rfl hx.2.2.1 hx.2.2.2
        refine (pe_callB call_isi (gl_of h.c mg) (h.f.bl _ (by simp)) (by decide +kernel) (pa_cons pe_wp (pa_cons pz pa_nil (by rfl)) (star_cons mc _ X.env)) (he := star_cons mc _ X.env) (hpl := by rfl)).wp ?_
        refine hs c ec h mc e1 _ fun v g' H' xt r => ?_
        exact ⟨v, .ty cn, .type t, .type cn, b, rfl, .ty cn, dTy_ty xt.ok r et, kit_ty ek, (q.ext xt).now xt.ok (.of (.bl _))⟩
  · obtain ⟨y, ys, p1, p2, rfl, mg, c, ec, mc, alt⟩ := txt m
    obtain ⟨dc, e1, ⟨hp, xs, el, e'⟩ | e2⟩ := ev ec e
    · cases e'
      exact lst h m ec e1 hp el Q q
    · exact (primD_lst e2).elim
end
end MP

set_option maxHeartbeats 1000000
/-! MiniPy: what is walked, targets, comprehensions. -/
namespace MP
open PySem PySem.Spec PyProof.Rows L2
section
variable {ob : Ob} {Φ : Nat → List D → Option D} {X : Cx} {Γ : Gam} {k : Nat} {g : Gh} {H : Hp} {σ : L2.St} {ρ : Rho}
/-- an iterator gives these data, whatever else happens to the heap, as long as it only grows -/
def Enum (ob : Ob) (K : PySem.W.Frag) (J : L2.It) (g : Gh) (H : Hp) (ds : List D) : Prop := ∀ g1 H1, Ext ob g H g1 H1 → ∀ i : Nat,
  (∀ d, ds[i]? = some d → J.go i H1 ∧ ∀ v H2, J.yld i H1 v H2 → ∃ g2, Ext ob g1 H1 g2 H2 ∧ Rep K g2 v d) ∧ (ds.length ≤ i → J.stop i H1)
/-- .. whatever happens to what is not frozen -/
def EnumF (ob : Ob) (K : PySem.W.Frag) (J : L2.It) (g : Gh) (ds : List D) : Prop := ∀ g1 H1, g.le g1 → WOk ob g1 H1 → ∀ i : Nat,
  (∀ d, ds[i]? = some d → J.go i H1 ∧ ∀ v H2, J.yld i H1 v H2 → ∃ g2, Ext ob g1 H1 g2 H2 ∧ Rep K g2 v d) ∧ (ds.length ≤ i → J.stop i H1)
theorem EnumF.en {J : L2.It} {ds : List D} {K : PySem.W.Frag} (h : EnumF ob K J g ds) : Enum ob K J g H ds := fun g1 H1 x => h g1 H1 x.le x.ok
def SndIt (ob : Ob) (Φ : Nat → List D → Option D) (c : It) : Prop := ∀ {X : Cx} {Γ : Gam} {k : Nat} {tg ix : Expr} {g : Gh} {H : Hp} {σ : L2.St} {ρ : Rho} {ds : List D}, Here ob Φ X Γ k g H σ ρ → mIt Γ c ix = true →
  (evIt Φ c ρ = some ds → ∀ R : L2.It → Hp → Prop, (∀ J g' H', Ext ob g H g' H' → Enum ob X.K J g' H' ds → R J H') → wpI X tg ix σ H R) ∧
  (evItF Φ c ρ = some ds → ∀ R : L2.It → Hp → Prop, (∀ J g' H', Ext ob g H g' H' → EnumF ob X.K J g' ds → R J H') → wpI X tg ix σ H R)
theorem enum_list {K : PySem.W.Frag} {a : Addr} {xs : List V} {ds : List D} (g0 : Gh) (hl : RepL K g0 xs ds) {g1 : Gh} {H1 : Hp} (le : g0.le g1) (w : WOk ob g1 H1) (hs' : SqL K H1 a xs) (i : Nat) :
    (∀ d, ds[i]? = some d → (Itl K a).go i H1 ∧ ∀ v H2, (Itl K a).yld i H1 v H2 → ∃ g2, Ext ob g1 H1 g2 H2 ∧ Rep K g2 v d) ∧ (ds.length ≤ i → (Itl K a).stop i H1) := by
  refine ⟨fun d e => ?_, fun n => ⟨xs, hs', by rw [hl.len]; exact n⟩⟩
  obtain ⟨v, hv, r⟩ := hl.get e
  refine ⟨⟨xs, v, hs', hv⟩, fun v' H2 y => ?_⟩
  obtain ⟨rfl, y⟩ := y
  have e1 := y xs hs'
  rw [hv] at e1
  cases e1
  exact ⟨g1, Ext.refl w, Rep.mono le _ _ r⟩
theorem enum_tup {K : PySem.W.Frag} {a : Addr} {xs : List V} {ds : List D} (g0 : Gh) (hl : RepL K g0 xs ds) {g1 : Gh} {H1 : Hp} (le : g0.le g1) (w : WOk ob g1 H1) (hs' : SqT K H1 a xs) (i : Nat) :
    (∀ d, ds[i]? = some d → (Itt K a).go i H1 ∧ ∀ v H2, (Itt K a).yld i H1 v H2 → ∃ g2, Ext ob g1 H1 g2 H2 ∧ Rep K g2 v d) ∧ (ds.length ≤ i → (Itt K a).stop i H1) := by
  refine ⟨fun d e => ?_, fun n => ⟨xs, hs', by rw [hl.len]; exact n⟩⟩
  obtain ⟨v, hv, r⟩ := hl.get e
  refine ⟨⟨xs, v, hs', hv⟩, fun v' H2 y => ?_⟩
  obtain ⟨rfl, y⟩ := y
  have e1 := y xs hs'
  rw [hv] at e1
  cases e1
  exact ⟨g1, Ext.refl w, Rep.mono le _ _ r⟩
theorem rng_get {lo hi : Int} {i : Nat} {d : D} (e : (rng lo hi)[i]? = some d) : i < (hi - lo).toNat ∧ d = .int (lo + (i : Int)) := by
  unfold rng at e
  rw [List.getElem?_map] at e
  cases h : (List.range (hi - lo).toNat)[i]? with
  | none => rw [h] at e; cases e
  | some j =>
    rw [h] at e
    obtain ⟨h1, h2⟩ := List.getElem?_eq_some_iff.mp h
    simp at h1 h2
    subst h2
    cases e
    exact ⟨by omega, rfl⟩
theorem rng_len (lo hi : Int) : (rng lo hi).length = (hi - lo).toNat := by simp [rng]
theorem enum_rng {K : PySem.W.Frag} (lo hi : Int) : EnumF ob K (Itr lo (hi - lo).toNat) g (rng lo hi) := fun g1 H1 le w i => by
  refine ⟨fun d e => ?_, fun n => by rw [rng_len] at n; exact n⟩
  obtain ⟨h1, rfl⟩ := rng_get e
  refine ⟨h1, fun v H2 y => ?_⟩
  obtain ⟨rfl, rfl⟩ := y
  exact ⟨g1, Ext.refl w, .int _⟩
theorem okRng_of {i : Int} (h : okRng i = true) : -(2 ^ 62) ≤ i ∧ i < 2 ^ 62 := by
  unfold okRng at h
  obtain ⟨h1, h2⟩ := and2 h
  exact ⟨of_decide_eq_true h1, of_decide_eq_true h2⟩
theorem snd_rng1 {a : E} (ha : SndN ob Φ a) : SndIt ob Φ (.rng1 a) := by
  refine fun {X Γ k tg ix g H σ ρ ds} h m => ?_
  have key : evIt Φ (.rng1 a) ρ = some ds → ∀ R : L2.It → Hp → Prop, (∀ J g' H', Ext ob g H g' H' → EnumF ob X.K J g' ds → R J H') → wpI X tg ix σ H R := by
    intro e R q
    simp only [evIt] at e
    split at e
    · rename_i j ea
      split at e
      · rename_i hj
        cases e
        cases ix with
        | Call fn xs kws p =>
          cases fn with
          | Name x p2 =>
            match xs, kws, m with
            | [y], [], m =>
              obtain ⟨m1, m3⟩ := and2 (show (decide (x = ("range" : Str)) && glB Γ.sc x && mE Γ a y) = true from m)
              obtain ⟨m1, m2⟩ := and2 m1
              obtain rfl := of_decide_eq_true m1
              refine (pi_range1 (gl_of h.c m2) (h.f.bl _ (by simp)) (pa_cons pe_wp pa_nil (star_cons m3 [] X.env)) (star_cons m3 [] X.env)).wp (ha h m3 ea _ fun v g1 H1 x1 r1 => ?_)
              cases (show Rep _ _ _ _ from r1)
              refine ⟨j, rfl, (okRng_of hj).1, (okRng_of hj).2, ?_⟩
              have := q (Itr 0 j.toNat) g1 H1 x1 (by
                have := enum_rng (ob := ob) (K := X.K) (g := g1) 0 j
                rw [Int.sub_zero] at this
                exact this)
              exact this
          | _ => cases m
        | _ => cases m
      · cases e
    · cases e
  exact ⟨fun e R q => key e R fun J g' H' x y => q J g' H' x y.en, fun e => key e⟩
theorem snd_rng2 {a b : E} (ha : SndN ob Φ a) (hb : SndN ob Φ b) : SndIt ob Φ (.rng2 a b) := by
  refine fun {X Γ k tg ix g H σ ρ ds} h m => ?_
  have key : evIt Φ (.rng2 a b) ρ = some ds → ∀ R : L2.It → Hp → Prop, (∀ J g' H', Ext ob g H g' H' → EnumF ob X.K J g' ds → R J H') → wpI X tg ix σ H R := by
    intro e R q
    simp only [evIt] at e
    split at e
    · rename_i i j ea eb
      split at e
      · rename_i hj
        cases e
        obtain ⟨hi, hj⟩ := and2 hj
        cases ix with
        | Call fn xs kws p =>
          cases fn with
          | Name x p2 =>
            match xs, kws, m with
            | [y, z], [], m =>
              obtain ⟨m1, m4⟩ := and2 (show (decide (x = ("range" : Str)) && glB Γ.sc x && mE Γ a y && mE Γ b z) = true from m)
              obtain ⟨m1, m3⟩ := and2 m1
              obtain ⟨m1, m2⟩ := and2 m1
              obtain rfl := of_decide_eq_true m1
              refine (pi_range2 (gl_of h.c m2) (h.f.bl _ (by simp)) (pa_cons pe_wp (pa_cons pe_wp pa_nil (star_cons m4 [] X.env)) (star_cons m3 _ X.env)) (by rw [star_cons m3, star_cons m4]; rfl) (star_cons m4 [] X.env)).wp ?_
              refine ha h m3 ea _ fun v g1 H1 x1 r1 => hb (h.ext x1) m4 eb _ fun u g2 H2 x2 r2 => ?_
              cases (show Rep _ _ _ _ from r1)
              cases (show Rep _ _ _ _ from r2)
              exact ⟨i, j, rfl, ⟨(okRng_of hi).1, (okRng_of hi).2, (okRng_of hj).1, (okRng_of hj).2⟩, q _ g2 H2 (x1.trans x2) (enum_rng i j)⟩
          | _ => cases m
        | _ => cases m
      · cases e
    · cases e
  exact ⟨fun e R q => key e R fun J g' H' x y => q J g' H' x y.en, fun e => key e⟩
theorem mIt_seq {a : E} {ix : Expr} (m : mIt Γ (.seq a) ix = true) : mE Γ a ix = true := by
  simpa only [mIt] using m
theorem snd_seq {a : E} (ha : SndN ob Φ a) : SndIt ob Φ (.seq a) := by
  refine fun {X Γ k tg ix g H σ ρ ds} h m => ?_
  have m' := mIt_seq m
  refine ⟨fun e R q => ?_, fun e R q => ?_⟩
  · simp only [evIt] at e
    split at e
    · rename_i d ea
      cases d with
      | lst es =>
        cases e
        refine (pi_list pe_wp).wp (ha h m' ea _ fun v g1 H1 x1 r1 => ?_)
        obtain ⟨b, xs, rfl, rb, rl⟩ := RepR.list x1.ok r1 rfl
        refine ⟨b, rfl, ⟨xs, rb⟩, q _ g1 H1 x1 ?_⟩
        cases (show Rep _ _ _ _ from r1) with
        | lst hs hl => exact fun g2 H2 y i => enum_list g1 hl y.le y.ok (sql_le y.ok.f (sql_le y.le.f hs)) i
      | own es =>
        cases e
        refine (pi_list pe_wp).wp (ha h m' ea _ fun v g1 H1 x1 r1 => ?_)
        obtain ⟨b, xs, rfl, hb, hf, hB, rl⟩ := r1
        exact ⟨b, rfl, ⟨xs, .of hb⟩, q _ g1 H1 x1 fun g2 H2 y i => enum_list g1 rl y.le y.ok (.of (y.keep _ _ hb hB)) i⟩
      | tup es =>
        cases e
        refine (pi_tup pe_wp).wp (ha h m' ea _ fun v g1 H1 x1 r1 => ?_)
        obtain ⟨b, xs, rfl, rb, rl⟩ := RepR.tuple x1.ok r1
        refine ⟨b, rfl, ⟨xs, rb⟩, q _ g1 H1 x1 ?_⟩
        cases (show Rep _ _ _ _ from r1) with
        | tup hs hl => exact fun g2 H2 y i => enum_tup g1 hl y.le y.ok (sqt_le y.ok.f (sqt_le y.le.f hs)) i
      | _ => cases e
    · cases e
  · unfold evItF at e
    simp only at e
    split at e
    · rename_i d ea
      obtain ⟨ea, nd⟩ := pure_some ea
      cases d with
      | lst es =>
        cases e
        refine (pi_list pe_wp).wp (ha h m' ea _ fun v g1 H1 x1 r1 => ?_)
        obtain ⟨b, xs, rfl, rb, rl⟩ := RepR.list x1.ok r1 rfl
        refine ⟨b, rfl, ⟨xs, rb⟩, q _ g1 H1 x1 ?_⟩
        cases (show Rep _ _ _ _ from r1) with
        | lst hs hl => exact fun g2 H2 le w i => enum_list g1 hl le w (sql_le w.f (sql_le le.f hs)) i
      | own es => cases nd
      | tup es =>
        cases e
        refine (pi_tup pe_wp).wp (ha h m' ea _ fun v g1 H1 x1 r1 => ?_)
        obtain ⟨b, xs, rfl, rb, rl⟩ := RepR.tuple x1.ok r1
        refine ⟨b, rfl, ⟨xs, rb⟩, q _ g1 H1 x1 ?_⟩
        cases (show Rep _ _ _ _ from r1) with
        | tup hs hl => exact fun g2 H2 le w i => enum_tup g1 hl le w (sqt_le w.f (sqt_le le.f hs)) i
      | _ => cases e
    · cases e
/-! ### targets -/
def setV (σ : L2.St) (ps : List (Nat × V)) : L2.St := ps.foldl (fun s p => s.set p.1 (some p.2)) σ
def gNames : List Nat → TGs
  | [] => gNil
  | j :: js => gCons (gName j) (gNames js)
theorem assign_len : ∀ (js : List Nat) (ts : List Expr) (env : Env), mTgs Γ js ts = true → (assignEach ts env).length = js.length ∧ (assignEach ts env).findIdx? (·.1) = none
  | [], [], _, _ => ⟨rfl, rfl⟩
  | [], _ :: _, _, m => by cases m
  | _ :: _, [], _, m => by cases m
  | j :: js, t :: ts, env, m => by
    cases t with
    | Name x p =>
      obtain ⟨m1, m2⟩ := and2 (show (tgB Γ j x && mTgs Γ js ts) = true from m)
      obtain ⟨h1, h2⟩ := assign_len js ts env m2
      refine ⟨congrArg Nat.succ h1, ?_⟩
      show List.findIdx? (·.1) ((false, assign (.Name x p) env) :: assignEach ts env) = none
      rw [List.findIdx?_cons]
      simp [h2]
    | _ => cases m
theorem pg_one (c : Ctx X Γ) {j : Nat} {x : Str} {p : Pos} (m : tgB Γ j x = true) : PG X (.Name x p) (gName j) := by
  unfold tgB nameAt at m
  obtain ⟨m1, m2⟩ := and2 m
  obtain ⟨h1, h2⟩ := loc_of c m2
  exact pg_name (by rw [c.N]; exact c.nd) (by rw [c.N]; exact of_decide_eq_true m1) h1 h2
theorem pgs_names (c : Ctx X Γ) : ∀ (js : List Nat) (ts : List Expr), mTgs Γ js ts = true → PGs X ts (gNames js)
  | [], [], _ => pgs_nil
  | [], _ :: _, m => by cases m
  | _ :: _, [], m => by cases m
  | j :: js, t :: ts, m => by
    cases t with
    | Name x p =>
      obtain ⟨m1, m2⟩ := and2 (show (tgB Γ j x && mTgs Γ js ts) = true from m)
      exact pgs_cons (pg_one c m1) (pgs_names c js ts m2) rfl
    | _ => cases m
theorem gNames_of {Q : L2.St → Hp → Prop} : ∀ (js : List Nat) (vs : List V) (σ : L2.St), vs.length = js.length → Q (setV σ (js.zip vs)) H → gNames js vs σ H Q
  | [], [], _, _, q => ⟨rfl, q⟩
  | [], _ :: _, _, l, _ => by cases l
  | _ :: _, [], _, l, _ => by cases l
  | j :: js, v :: vs, σ, l, q => ⟨v, vs, rfl, gNames_of js vs _ (Nat.succ.inj l) q⟩
theorem slots_names {K : PySem.W.Frag} : ∀ (js : List Nat) (vs : List V) (ds : List D) (σ : L2.St) (ρ : Rho), RepL K g vs ds → Slots K g H σ ρ → Slots K g H (setV σ (js.zip vs)) ((js.zip ds).foldl (fun r p => r.set p.1 (.val p.2)) ρ)
  | [], _, _, _, _, _, s => s
  | _ :: _, _, _, _, _, .nil, s => s
  | j :: js, _, _, σ, ρ, .cons r rl, s => slots_names js _ _ _ _ rl (s.setVal j r)
theorem setTg_one {j : Nat} {d : D} {ρ' : Rho} (e : setTg [j] d ρ = some ρ') : ρ' = ρ.set j (.val d) := by
  unfold setTg at e
  cases e
  rfl
theorem setTg_more {j i : Nat} {js : List Nat} {d : D} {ρ' : Rho} (e : setTg (j :: i :: js) d ρ = some ρ') : ∃ ds, d = .tup ds ∧ ds.length = (j :: i :: js).length ∧ ρ' = ((j :: i :: js).zip ds).foldl (fun r p => r.set p.1 (.val p.2)) ρ := by
  cases d with
  | tup ds =>
    have e' : (if decide (ds.length = (j :: i :: js).length) = true then some (((j :: i :: js).zip ds).foldl (fun r p => r.set p.1 (.val p.2)) ρ) else none) = some ρ' := e
    split at e'
    · rename_i h
      cases e'
      exact ⟨ds, rfl, of_decide_eq_true h, rfl⟩
    · cases e'
  | _ => cases e
theorem snd_tg (c : Ctx X Γ) {tg : List Nat} {e : Expr} (m : mTg Γ tg e = true) (w : WOk ob g H) (s : Slots X.K g H σ ρ) {v : V} {d : D} (r : Rep X.K g v d) {ρ' : Rho} (es : setTg tg d ρ = some ρ') :
    ∀ Q, (∀ σ', Slots X.K g H σ' ρ' → (∃ ps : List (Nat × V), (∀ p ∈ ps, p.1 ∈ tg) ∧ σ' = setV σ ps) → Q σ' H) → wpG X e v σ H Q := by
  intro Q q
  cases e with
  | Name x p =>
    match tg, m with
    | [j], m =>
      have := setTg_one es
      subst this
      refine (pg_one c m).wp (q _ (s.setVal j r) ⟨[(j, v)], fun p hp => ?_, rfl⟩)
      simp only [List.mem_singleton] at hp
      subst hp
      exact List.mem_singleton.mpr rfl
  | Tuple ts kk p =>
    match tg, m with
    | j :: i :: js, m =>
      obtain ⟨ds, rfl, hl, rfl⟩ := setTg_more es
      have m' : mTgs Γ (j :: i :: js) ts = true := m
      obtain ⟨h1, h2⟩ := assign_len _ _ X.env m'
      obtain ⟨a, xs, rfl, hs, rl⟩ := RepR.tuple w (.of r)
      refine (pg_tup c.calm (pgs_names c _ _ m') h1 h2).wp ⟨a, xs, rfl, hs, by rw [rl.len, hl], ?_⟩
      refine gNames_of _ _ _ (by rw [rl.len, hl]) (q _ (slots_names _ _ _ _ _ rl s) ⟨_, fun p hp => (List.of_mem_zip hp).1, rfl⟩)
  | _ => cases m
theorem wipe_set {own : List Nat} {σ : L2.St} {j : Nat} {v : Option V} (h : j ∈ own) : wipe (σ.set j v) own = wipe σ own := by
  induction own with
  | nil => cases h
  | cons i own ih =>
    show (wipe (σ.set j v) own).set i none = (wipe σ own).set i none
    by_cases hj : j ∈ own
    · rw [ih hj]
    · have hi : j = i := by
        rcases List.mem_cons.mp h with h | h
        · exact h
        · exact absurd h hj
      subst hi
      have : ∀ (own : List Nat), j ∉ own → wipe (σ.set j v) own = (wipe σ own).set j v := by
        intro own
        induction own with
        | nil => intro _; rfl
        | cons i own ih2 =>
          intro hn
          have n1 : j ≠ i := fun z => hn (by rw [z]; exact List.mem_cons_self)
          have n2 : j ∉ own := fun z => hn (List.mem_cons_of_mem _ z)
          show (wipe (σ.set j v) own).set i none = ((wipe σ own).set i none).set j v
          rw [ih2 n2, List.set_comm _ _ n1]
      rw [this own hj, List.set_set]
theorem wipe_setV {own : List Nat} : ∀ {ps : List (Nat × V)} {σ : L2.St}, (∀ p ∈ ps, p.1 ∈ own) → wipe (setV σ ps) own = wipe σ own
  | [], _, _ => rfl
  | p :: ps, σ, h => by
    show wipe (setV (σ.set p.1 (some p.2)) ps) own = _
    rw [wipe_setV fun q hq => h q (List.mem_cons_of_mem _ hq), wipe_set (h p List.mem_cons_self)]
theorem wipe_idem {own : List Nat} {σ : L2.St} : wipe (wipe σ own) own = wipe σ own := by
  have : ∀ (own' : List Nat), (∀ j ∈ own', j ∈ own) → wipe (wipe σ own') own = wipe σ own := by
    intro own'
    induction own' with
    | nil => intro _; rfl
    | cons j own' ih =>
      intro h
      show wipe ((wipe σ own').set j none) own = _
      rw [wipe_set (h j List.mem_cons_self), ih fun i hi => h i (List.mem_cons_of_mem _ hi)]
  exact this own fun _ h => h
end
end MP

set_option maxHeartbeats 1000000
/-! MiniPy: comprehensions. -/
namespace MP
open PySem PySem.Spec PyProof.Rows L2
section
variable {ob : Ob} {Φ : Nat → List D → Option D} {X : Cx} {Γ : Gam} {k : Nat} {g : Gh} {H : Hp} {σ : L2.St} {ρ : Rho}
def wpTs (X : Cx) (ifs : List Expr) : TT := fun σ H Q => ∀ (pins : List (Addr × Obj)) (s : Shared), Inv X pins σ H s →
  wpAny (model X.prog X.w) X.A (forIn ifs true fun c r => if r = true then do let ok ← isTrue c X.env (eval c X.env); pure (ForInStep.yield ok) else pure (ForInStep.yield r)) (TP X pins σ Q) X.xe s
theorem pts_wp {ifs : List Expr} : PTs X ifs (wpTs X ifs) := ⟨fun pins s _ _ _ I h => h pins s I⟩
theorem pts_to {ifs : List Expr} {t : TT} (h : PTs X ifs t) {σ : L2.St} {H : Hp} {Q : Bool → Hp → Prop} (q : t σ H Q) : wpTs X ifs σ H Q := fun pins s I => h.run pins s σ H Q I q
def SndTs1 (ob : Ob) (Φ : Nat → List D → Option D) (c : Ts) : Prop := ∀ {X : Cx} {Γ : Gam} {k : Nat} {xs : List Expr} {g : Gh} {H : Hp} {σ : L2.St} {ρ : Rho} {b : Bool}, Here ob Φ X Γ k g H σ ρ → mTs Γ c xs = true → xs.length ≤ 1 → evTs Φ c ρ = some b → ∀ Q, PostB ob g H b Q → wpTs X xs σ H Q
theorem snd_ts1_nil : SndTs1 ob Φ .nil := by
  refine fun {X Γ k xs g H σ ρ b} h m l e Q q => ?_
  cases xs with
  | nil =>
    cases (show some true = some b from e)
    exact pts_to pts_nil (q.now h.w)
  | cons _ _ => cases m
theorem snd_ts1_cons {t : T} {ts : Ts} (ht : SndT ob Φ t) : SndTs1 ob Φ (.cons t ts) := by
  refine fun {X Γ k xs g H σ ρ b} h m l e Q q => ?_
  cases xs with
  | nil => cases m
  | cons x xs =>
    obtain ⟨m1, m2⟩ := and2 (show (mT Γ t x && mTs Γ ts xs) = true from m)
    have : xs = [] := by
      cases xs with
      | nil => rfl
      | cons _ _ => simp at l
    subst this
    exact pts_to (pts_one pt_wp) (ht h m1 (by simpa only [evTs] using e) Q q)
/-- within a comprehension's block -/
abbrev Gam.blk (Γ : Gam) (scope : Scope) : Gam := { Γ with sc := relS scope Γ.sc, fnc := some scope }
theorem ctx_blk (c : Ctx X Γ) {scope : Scope} (hk : scope.kind = .function) (s : Shared) (H : Hp) (C : Addr) (cl : List (Str × Addr)) (fp : List Addr) : Ctx (X.blk s H scope (compEnvC scope cl C X.env) fp) (Γ.blk scope) :=
  ⟨c.N, by
    show relS scope X.env.scope = relS scope Γ.sc
    rw [c.sc], fun x => rfl, c.nd, c.calm, rfl, hk⟩
theorem fns_blk (f : Fns ob Φ X Γ k) {scope : Scope} (s : Shared) (H : Hp) (C : Addr) (cl : List (Str × Addr)) (fp : List Addr) : Fns ob Φ (X.blk s H scope (compEnvC scope cl C X.env) fp) (Γ.blk scope) k :=
  ⟨f.room, f.fn, f.bl⟩
theorem own_snd (N : List Str) (own : List Nat) : (ownL N own).map (·.2) = own := by
  unfold ownL
  rw [List.map_map]
  induction own with
  | nil => rfl
  | cons j own ih => exact congrArg (j :: ·) ih
theorem evE_comp {elt : E} {tg : List Nat} {it : It} {ts : Ts} {own : List Nat} {d : D} (e : evE Φ (.comp elt tg it ts own) ρ = some d) :
    ∃ ds es, evIt Φ it ρ = some ds ∧ compM (stepC Φ elt tg ts own ρ) ds = some es ∧ es.length ≤ line ∧ d = .lst es := by
  simp only [evE] at e
  split at e
  · rename_i ds e1
    refine ⟨ds, ?_⟩
    split at e
    · rename_i es e2
      split at e
      · rename_i hl
        cases e
        exact ⟨es, e1, e2, of_decide_eq_true hl, rfl⟩
      · cases e
    · cases e
  · cases e
theorem compM_at {f : D → Option (Option D)} {ds : List D} {i : Nat} {es : List D} (h : compM f (ds.drop i) = some es) :
    (ds.length ≤ i ∧ es = []) ∨ ∃ d o rest, ds[i]? = some d ∧ f d = some o ∧ compM f (ds.drop (i + 1)) = some rest ∧ es = (match o with | some e => e :: rest | none => rest) := by
  by_cases hi : i < ds.length
  · right
    rw [List.drop_eq_getElem_cons hi] at h
    unfold compM at h
    split at h
    · cases h
    · rename_i o e1
      split at h
      · cases h
      · rename_i rest e2
        cases h
        exact ⟨ds[i], o, rest, List.getElem?_eq_getElem hi, e1, e2, rfl⟩
  · left
    rw [List.drop_eq_nil_of_le (by omega)] at h
    cases h
    exact ⟨by omega, rfl⟩
/-- the reading of a comprehension -/
theorem lc_read {elt : E} {tg : List Nat} {it : It} {ts : Ts} {own : List Nat} (hi : SndIt ob Φ it) (he : SndN ob Φ elt) (ht : SndTs1 ob Φ ts)
    {y tx ix : Expr} {ifs : List Expr} {scope : Scope} (h : Here ob Φ X Γ k g H σ ρ) (mi : mIt Γ it ix = true) (me : mE (Γ.blk scope) elt y = true) (mt : mTg (Γ.blk scope) tg tx = true) (mo : ∀ j ∈ tg, j ∈ own) (ms : mTs (Γ.blk scope) ts ifs = true) (ml : ifs.length ≤ 1)
    (hk : scope.kind = .function) {es ds : List D} (e1 : evIt Φ it ρ = some ds) (e2 : compM (stepC Φ elt tg ts own ρ) ds = some es) (hl : es.length ≤ line) {Q : VK} (q : PostL ob X.K g H es Q) :
    tLc (wpI X tx ix) (fun v σ H Q => ∀ (s : Shared) (H0 : Hp) (C : Addr) (cl : List (Str × Addr)) (fp : List Addr), wpG (X.blk s H0 scope (compEnvC scope cl C X.env) fp) tx v σ H Q)
      (fun σ H Q => ∀ (s : Shared) (H0 : Hp) (C : Addr) (cl : List (Str × Addr)) (fp : List Addr), wpTs (X.blk s H0 scope (compEnvC scope cl C X.env) fp) ifs σ H Q)
      (fun σ H Q => ∀ (s : Shared) (H0 : Hp) (C : Addr) (cl : List (Str × Addr)) (fp : List Addr), wpE (X.blk s H0 scope (compEnvC scope cl C X.env) fp) y σ H Q) own σ H Q := by
  refine (hi h mi).1 e1 _ fun J g1 H1 x1 en A0 hD => ?_
  have h1 := h.ext x1
  refine ⟨fun i m H' => m = ds.length - i ∧ i ≤ ds.length ∧ ∃ (g' : Gh) (xs : List V) (es' rest : List D), Ext ob g1 H1 g' H' ∧ H' A0 = some (.lst xs) ∧ g'.F A0 = none ∧ g'.B A0 = none ∧ RepL X.K g' xs es' ∧ compM (stepC Φ elt tg ts own ρ) (ds.drop i) = some rest ∧ es = es' ++ rest,
    ⟨ds.length, by simp, Nat.zero_le _, g1, [], [], es, Ext.own x1.ok hD, upd_same, (x1.ok.fresh hD).1, (x1.ok.fresh hD).2, .nil, e2, rfl⟩, ?_⟩
  rintro i m H' ⟨rfl, hi', g', xs, es', rest, xt, hx, hf, hb, rl, ec, ee⟩
  rcases compM_at ec with ⟨hn, hr⟩ | ⟨d, o, rest', ed, eo, er, hr⟩
  · -- the end
    subst hr
    rw [List.append_nil] at ee
    subst ee
    exact .inl ⟨(en g' H' xt i).2 hn, q A0 xs g' H' (x1.trans xt) (x1.back hD) hx hf hb rl⟩
  · -- a turn
    obtain ⟨go, yld⟩ := (en g' H' xt i).1 d ed
    refine .inr ⟨go, fun H2 => i + 1 ≤ ds.length ∧ ∃ (g' : Gh) (xs : List V) (es' rest : List D), Ext ob g1 H1 g' H2 ∧ H2 A0 = some (.lst xs) ∧ g'.F A0 = none ∧ g'.B A0 = none ∧ RepL X.K g' xs es' ∧ compM (stepC Φ elt tg ts own ρ) (ds.drop (i + 1)) = some rest ∧ es = es' ++ rest,
      fun H2 hN => ⟨ds.length - (i + 1), by have := (List.getElem?_eq_some_iff.mp ed).1; omega, rfl, hN⟩, fun v H2 y2 => ?_⟩
    have hlt := (List.getElem?_eq_some_iff.mp ed).1
    obtain ⟨g2, x2, r2⟩ := yld v H2 y2
    unfold stepC at eo
    split at eo
    · rename_i ρ' e3
      intro s0 H0 C cl fp
      have c' := ctx_blk h.c hk s0 H0 C cl fp
      have h2 : Slots X.K g2 H2 (wipe σ own) (wipeR ρ own) := ((h1.ext xt).ext x2).s.wipe own
      refine snd_tg c' mt x2.ok h2 r2 e3 _ fun σ' s' ⟨ps, hps, hσ⟩ => ⟨?_, fun s0' H0' C' cl' fp' => ?_⟩
      · rw [hσ, wipe_setV fun p hp => mo _ (hps p hp), wipe_idem]
      · have here' : Here ob Φ (X.blk s0' H0' scope (compEnvC scope cl' C' X.env) fp') (Γ.blk scope) k g2 H2 σ' ρ' := ⟨ctx_blk h.c hk s0' H0' C' cl' fp', fns_blk h.f s0' H0' C' cl' fp', x2.ok, s'⟩
        have hx2 := x2.keep A0 _ hx hb
        have hf2 := x2.nF A0 _ hx hf
        have hb2 := x2.nB A0 _ hx hb
        split at eo
        · -- the test is true
          rename_i e4
          split at eo
          · rename_i dd e5
            cases eo
            obtain ⟨e5, np⟩ := pure_some e5
            refine ht here' ms ml e4 _ fun g3 H3 x3 => ?_
            show (if true = true then _ else _)
            rw [if_pos rfl]
            intro s0'' H0'' C'' cl'' fp''
            have here'' : Here ob Φ (X.blk s0'' H0'' scope (compEnvC scope cl'' C'' X.env) fp'') (Γ.blk scope) k g3 H3 σ' ρ' := ⟨ctx_blk h.c hk s0'' H0'' C'' cl'' fp'', fns_blk h.f s0'' H0'' C'' cl'' fp'', x3.ok, s'.ext x3⟩
            refine he here'' me e5 _ fun w g4 H4 x4 r4 => ?_
            have x24 := x3.trans x4
            have xx := xt.trans (x2.trans x24)
            have hx4 := x24.keep A0 _ hx2 hb2
            have hf4 := x24.nF A0 _ hx2 hf2
            have hb4 := x24.nB A0 _ hx2 hb2
            have rl4 := RepL.mono (x2.trans x24).le _ _ rl
            refine ⟨xs, hx4, ?_, by omega, g4, xs ++ [w], es' ++ [dd], rest', xx.write hD hf4 hb4, upd_same, hf4, hb4, rl4.append (.cons (r4.pure np) .nil), er, ?_⟩
            · rw [rl.len, ← line_eq]
              have : es.length = es'.length + rest.length := by rw [ee, List.length_append]
              rw [hr] at this
              simp only [List.length_cons] at this
              omega
            · rw [ee, hr]
              simp
          · cases eo
        · -- it is false
          rename_i e4
          cases eo
          refine ht here' ms ml e4 _ fun g3 H3 x3 => ?_
          show (if false = true then _ else _)
          rw [if_neg (by decide)]
          refine ⟨by omega, g3, xs, es', rest', xt.trans (x2.trans x3), x3.keep A0 _ hx2 hb2, x3.nF A0 _ hx2 hf2, x3.nB A0 _ hx2 hb2, RepL.mono (x2.trans x3).le _ _ rl, er, ?_⟩
          rw [ee, hr]
        · cases eo
    · cases eo
/-- what is asked of a comprehension's text -/
theorem comp_txt {elt : E} {tg : List Nat} {it : It} {ts : Ts} {own : List Nat} {ex : Expr} (m : mE Γ (.comp elt tg it ts own) ex = true) : ∃ y tx ix ifs scope p, ex = .ListComp y [⟨tx, ix, ifs, 0⟩] scope p ∧
    blkC Γ.N Γ.sc scope (ownL Γ.N own) = true ∧ mIt Γ it ix = true ∧ mE (Γ.blk scope) elt y = true ∧ mTg (Γ.blk scope) tg tx = true ∧ (∀ j ∈ tg, j ∈ own) ∧ mTs (Γ.blk scope) ts ifs = true ∧ ifs.length ≤ 1 := by
  cases ex with
  | ListComp y gs scope p =>
    match gs, m with
    | [⟨tx, ix, ifs, a⟩], m =>
      have m' : (decide (a = 0) && blkC Γ.N Γ.sc scope (ownL Γ.N own) && mIt Γ it ix && (mE (Γ.blk scope) elt y && mTg (Γ.blk scope) tg tx && tg.all (fun j => decide (j ∈ own)) && mTs (Γ.blk scope) ts ifs && decide (ifs.length ≤ 1))) = true := m
      obtain ⟨m1, m2⟩ := and2 m'
      obtain ⟨m1, m3⟩ := and2 m1
      obtain ⟨m1, m4⟩ := and2 m1
      obtain ⟨m2, m5⟩ := and2 m2
      obtain ⟨m2, m6⟩ := and2 m2
      obtain ⟨m2, m7⟩ := and2 m2
      obtain ⟨m2, m8⟩ := and2 m2
      obtain rfl := of_decide_eq_true m1
      exact ⟨y, tx, ix, ifs, scope, p, rfl, m4, m3, m2, m8, fun j hj => of_decide_eq_true (List.all_eq_true.mp m7 j hj), m6, of_decide_eq_true m5⟩
  | _ => cases m
theorem mIt_set {it : It} {ix : Expr} (m : mIt Γ it ix = true) (env : Env) (x : Value) : foldedSetIterable ix env x = pure x := by
  cases it with
  | seq a => exact not_set (mIt_seq m) env x
  | rng1 a => cases ix <;> first | rfl | cases m
  | rng2 a b => cases ix <;> first | rfl | cases m
theorem blk_of (c : Ctx X Γ) {scope : Scope} {own : List Nat} (h : blkC Γ.N Γ.sc scope (ownL Γ.N own) = true) : BlkOk X.N X.env.scope scope (ownL Γ.N own) := by
  rw [c.N, c.sc]
  exact blkOk_by h
theorem snd_comp {elt : E} {tg : List Nat} {it : It} {ts : Ts} {own : List Nat} (hi : SndIt ob Φ it) (he : SndN ob Φ elt) (ht : SndTs1 ob Φ ts) : SndE ob Φ (.comp elt tg it ts own) := by
  have key : ∀ {X : Cx} {Γ : Gam} {k : Nat} {ex : Expr} {g : Gh} {H : Hp} {σ : L2.St} {ρ : Rho} {d : D}, Here ob Φ X Γ k g H σ ρ → mE Γ (.comp elt tg it ts own) ex = true → evE Φ (.comp elt tg it ts own) ρ = some d → ∃ ds, d = .lst ds ∧ ∀ Q, PostL ob X.K g H ds Q → wpE X ex σ H Q := by
    intro X Γ k ex g H σ ρ d h m e
    obtain ⟨y, tx, ix, ifs, scope, p, rfl, mb, mi, me, mt, mo, ms, ml⟩ := comp_txt m
    obtain ⟨ds, es, e1, e2, hl, rfl⟩ := evE_comp e
    refine ⟨es, rfl, fun Q q => ?_⟩
    have ok := blk_of h.c mb
    refine (pe_lc h.c.calm (by rw [h.c.N]; exact h.c.nd) pi_wp ok (g := fun v σ H Q => ∀ (s : Shared) (H0 : Hp) (C : Addr) (cl : List (Str × Addr)) (fp : List Addr), wpG (X.blk s H0 scope (compEnvC scope cl C X.env) fp) tx v σ H Q)
      (tt := fun σ H Q => ∀ (s : Shared) (H0 : Hp) (C : Addr) (cl : List (Str × Addr)) (fp : List Addr), wpTs (X.blk s H0 scope (compEnvC scope cl C X.env) fp) ifs σ H Q)
      (te := fun σ H Q => ∀ (s : Shared) (H0 : Hp) (C : Addr) (cl : List (Str × Addr)) (fp : List Addr), wpE (X.blk s H0 scope (compEnvC scope cl C X.env) fp) y σ H Q)
      (fun s H C cl fp => ⟨fun pins s' σ' H' v u Q' I r hq => hq s H C cl fp pins s' u I r⟩) (fun s H C cl fp => ⟨fun pins s' σ' H' Q' I hq => hq s H C cl fp pins s' I⟩) (fun s H C cl fp => ⟨fun pins s' σ' H' Q' I hq => hq s H C cl fp pins s' I⟩) (mIt_set mi X.env)).wp ?_
    rw [own_snd]
    exact lc_read hi he ht h mi me mt mo ms ml ok.kind e1 e2 hl q
  refine ⟨fun {X Γ k ex g H σ ρ d} h m e Q q => ?_, fun _ => fun {X Γ k ex g H σ ρ ds} h m e Q q => ?_⟩
  · obtain ⟨ds, rfl, z⟩ := key h m e
    exact z Q q.frz
  · obtain ⟨ds', e', z⟩ := key h m e
    cases e'
    exact z Q q
end
theorem one_of {ob : Ob} {Φ : Nat → List D → Option D} {e c : E} {es : Es} (h : Es.cons e es = .cons c .nil) (s : SndN ob Φ e) : SndN ob Φ c := by
  cases h
  exact @s
/-! ### all expressions -/
section
variable (ob : Ob) (Φ : Nat → List D → Option D)
mutual
theorem sndE : (c : E) → SndE ob Φ c
  | .slot i => snd_slot i
  | .cint i => snd_int i
  | .cbl b => snd_bl b
  | .cnon => snd_non
  | .cstr x => snd_str x
  | .bin op a b => snd_bin (sndE a).1 (sndE b).1
  | .neg a => snd_neg (sndE a).1
  | .cmp op a b => snd_cmp (sndE a).1 (sndE b).1
  | .andV es => snd_andV (sndAnd es)
  | .orV es => snd_orV (sndOr es)
  | .notV a => snd_notV (sndE a).1
  | .ite t a b => snd_ite (sndT t) (sndE a).1 (sndE b).1
  | .tup es => snd_tup (sndEs es)
  | .lst es => snd_lst (sndEs es)
  | .idx a b => snd_idx (sndE a).1 (sndE b).1
  | .slc a lo hi => snd_slc (sndE a).1 (sndO lo) (sndO hi)
  | .call f es dv => snd_call (sndEs es)
  | .prim p es => snd_prim (sndOne es)
  | .comp elt tg it ts own => snd_comp (sndIt it) (sndE elt).1 (sndTs1 ts)
theorem sndEs : (c : Es) → SndEs ob Φ c
  | .nil => snd_es_nil
  | .cons e es => snd_es_cons (sndE e).1 (sndEs es)
theorem sndOne : (cs : Es) → ∀ c, cs = .cons c .nil → SndN ob Φ c
  | .nil => fun c e => by cases e
  | .cons e es => fun c h => one_of h (sndE e).1
theorem sndAnd : (c : Es) → SndAnd ob Φ c
  | .nil => snd_and_nil
  | .cons e es => snd_and_cons (sndE e).1 (sndAnd es)
theorem sndOr : (c : Es) → SndOr ob Φ c
  | .nil => snd_or_nil
  | .cons e es => snd_or_cons (sndE e).1 (sndOr es)
theorem sndO : (c : O) → SndO ob Φ c
  | .none => snd_o_none
  | .some e => snd_o_some (sndE e).1
theorem sndT : (c : T) → SndT ob Φ c
  | .tru e => snd_tru (sndE e).1
  | .cmp op a b => snd_tcmp (sndE a).1 (sndE b).1
  | .chain op op' a b c => snd_chain (sndE a).1 (sndE b).1 (sndE c).1
  | .and ts => snd_tand (sndAll ts)
  | .or ts => snd_tor (sndAny ts)
  | .not t => snd_tnot (sndT t)
theorem sndAll : (c : Ts) → SndTsA ob Φ c
  | .nil => snd_all_nil
  | .cons t ts => snd_all_cons (sndT t) (sndAll ts)
theorem sndAny : (c : Ts) → SndTsO ob Φ c
  | .nil => snd_any_nil
  | .cons t ts => snd_any_cons (sndT t) (sndAny ts)
theorem sndTs1 : (c : Ts) → SndTs1 ob Φ c
  | .nil => snd_ts1_nil
  | .cons t ts => snd_ts1_cons (sndT t)
theorem sndIt : (c : It) → SndIt ob Φ c
  | .rng1 a => snd_rng1 (sndE a).1
  | .rng2 a b => snd_rng2 (sndE a).1 (sndE b).1
  | .seq e => snd_seq (sndE e).1
end
end
end MP

set_option maxHeartbeats 1000000
/-! MiniPy: statements. -/
namespace MP
open PySem PySem.Spec PyProof.Rows L2
/-- the state of a def's body: entered at (g0, H0) -/
structure SR (ob : Ob) (K : PySem.W.Frag) (g0 : Gh) (H0 : Hp) (g : Gh) (H : Hp) (σ : L2.St) (ρ : Rho) : Prop where
  x : Ext ob g0 H0 g H
  s : Slots K g H σ ρ
  new : ∀ (i : Nat) (ds : List D) (a : Addr), ρ[i]? = some (.mls ds) → σ[i]? = some (some (.ref a)) → H0 a = none
  dist : ∀ (i j : Nat) (ds es : List D) (a : Addr), ρ[i]? = some (.mls ds) → ρ[j]? = some (.mls es) → σ[i]? = some (some (.ref a)) → σ[j]? = some (some (.ref a)) → i = j
section
variable {ob : Ob} {K : PySem.W.Frag} {g0 g g1 : Gh} {H0 H H1 : Hp} {σ : L2.St} {ρ : Rho}
theorem SR.ext (r : SR ob K g0 H0 g H σ ρ) (x : Ext ob g H g1 H1) : SR ob K g0 H0 g1 H1 σ ρ := ⟨r.x.trans x, r.s.ext x, r.new, r.dist⟩
theorem get_set_ne {α : Type} {xs : List α} {i j : Nat} {v w : α} (h : (xs.set i v)[j]? = some w) (n : i ≠ j) : xs[j]? = some w := by
  rw [List.getElem?_set_ne n] at h
  exact h
theorem get_set_self {α : Type} {xs : List α} {i : Nat} {v w : α} (h : (xs.set i v)[i]? = some w) : v = w := by
  have hl : i < xs.length := by
    have := (List.getElem?_eq_some_iff.mp h).1
    simpa using this
  rw [List.getElem?_set_self hl] at h
  exact Option.some.inj h
theorem SR.setVal (r : SR ob K g0 H0 g H σ ρ) {v : V} {d : D} (j : Nat) (q : Rep K g v d) : SR ob K g0 H0 g H (σ.set j (some v)) (ρ.set j (.val d)) := by
  refine ⟨r.x, r.s.setVal j q, fun i ds a e1 e2 => ?_, fun i i' ds es a e1 e2 e3 e4 => ?_⟩
  · have n : j ≠ i := fun z => by subst z; cases get_set_self e1
    exact r.new i ds a (get_set_ne e1 n) (get_set_ne e2 n)
  · have n : j ≠ i := fun z => by subst z; cases get_set_self e1
    have n' : j ≠ i' := fun z => by subst z; cases get_set_self e2
    exact r.dist i i' ds es a (get_set_ne e1 n) (get_set_ne e2 n') (get_set_ne e3 n) (get_set_ne e4 n')
/-- a list of one's own at a slot -/
theorem SR.setOwn (r : SR ob K g0 H0 g H σ ρ) {p : Addr} {xs : List V} {ds : List D} (j : Nat) (x : Ext ob g H g1 H1) (hp : H p = none) (h1 : H1 p = some (.lst xs)) (hf : g1.F p = none) (hb : g1.B p = none) (q : RepL K g1 xs ds) : SR ob K g0 H0 g1 H1 (σ.set j (some (.ref p))) (ρ.set j (.mls ds)) := by
  have r1 := r.ext x
  have nw : ∀ (i : Nat) (es : List D) (a : Addr), ρ[i]? = some (.mls es) → σ[i]? = some (some (.ref a)) → a ≠ p := fun i es a e1 e2 z => by
    obtain ⟨b, ys, h2, h3, _⟩ := r.s.at' _ _ e1
    rw [e2] at h2
    cases h2
    rw [z, hp] at h3
    cases h3
  refine ⟨r1.x, ⟨by simp [r1.s.len], fun i sv e => ?_⟩, fun i es a e1 e2 => ?_, fun i i' es es' a e1 e2 e3 e4 => ?_⟩
  · by_cases h : j = i
    · subst h
      cases get_set_self e
      have hl : j < σ.length := by
        have := (List.getElem?_eq_some_iff.mp e).1
        rw [r.s.len]
        simpa using this
      exact ⟨p, xs, by rw [List.getElem?_set_self hl], h1, hf, hb, q⟩
    · have z := r1.s.at' i sv (get_set_ne e h)
      cases sv with
      | non => trivial
      | val d => obtain ⟨v, z1, z2⟩ := z; exact ⟨v, by rw [List.getElem?_set_ne h]; exact z1, z2⟩
      | mls es => obtain ⟨a, ys, z1, z2⟩ := z; exact ⟨a, ys, by rw [List.getElem?_set_ne h]; exact z1, z2⟩
  · by_cases h : j = i
    · subst h
      cases get_set_self e2
      exact r.x.back hp
    · exact r.new i es a (get_set_ne e1 h) (get_set_ne e2 h)
  · by_cases h : j = i
    · by_cases h' : j = i'
      · rw [← h, ← h']
      · subst h
        cases get_set_self e3
        exact absurd rfl (nw i' es' p (get_set_ne e2 h') (get_set_ne e4 h'))
    · by_cases h' : j = i'
      · subst h'
        cases get_set_self e4
        exact absurd rfl (nw i es p (get_set_ne e1 h) (get_set_ne e3 h))
      · exact r.dist i i' es es' a (get_set_ne e1 h) (get_set_ne e2 h') (get_set_ne e3 h) (get_set_ne e4 h')
/-- the list at slot i is changed -/
theorem SR.write (r : SR ob K g0 H0 g H σ ρ) {i : Nat} {ds es : List D} {a : Addr} {ys : List V} (e : ρ[i]? = some (.mls ds)) (ea : σ[i]? = some (some (.ref a))) (q : RepL K g ys es) : SR ob K g0 H0 g (upd H a (.lst ys)) σ (ρ.set i (.mls es)) := by
  obtain ⟨a', xs, h1, h2, hf, hb, h3⟩ := r.s.at' _ _ e
  rw [ea] at h1
  cases h1
  have hi : i < ρ.length := (List.getElem?_eq_some_iff.mp e).1
  refine ⟨r.x.write (r.new i ds a e ea) hf hb, ⟨by simp [r.s.len], fun j sv ej => ?_⟩, fun j fs b e1 e2 => ?_, fun j j' fs fs' b e1 e2 e3 e4 => ?_⟩
  · by_cases h : i = j
    · subst h
      cases get_set_self ej
      exact ⟨a, ys, ea, upd_same, hf, hb, q⟩
    · have ej' := get_set_ne ej h
      have z := r.s.at' j sv ej'
      cases sv with
      | non => trivial
      | val d => exact z
      | mls fs =>
        obtain ⟨b, zs, z1, z2, z3, z4, z5⟩ := z
        have nb : b ≠ a := fun w => h (r.dist i j ds fs a e ej' ea (by rw [z1, w]))
        exact ⟨b, zs, z1, by rw [upd_ne nb]; exact z2, z3, z4, z5⟩
  · by_cases h : i = j
    · subst h
      exact r.new i ds b e e2
    · exact r.new j fs b (get_set_ne e1 h) e2
  · have lk : ∀ {j : Nat} {fs : List D}, (ρ.set i (.mls es))[j]? = some (.mls fs) → ∃ fs', ρ[j]? = some (.mls fs') := fun {j fs} z => by
      by_cases h : i = j
      · subst h; exact ⟨_, e⟩
      · exact ⟨_, get_set_ne z h⟩
    obtain ⟨f1, w1⟩ := lk e1
    obtain ⟨f2, w2⟩ := lk e2
    exact r.dist j j' f1 f2 b w1 w2 e3 e4
/-- the list at slot i is never changed from now on -/
theorem SR.frz (r : SR ob K g0 H0 g H σ ρ) {i : Nat} {ds : List D} (e : ρ[i]? = some (.mls ds)) : ∃ g', g.le g' ∧ SR ob K g0 H0 g' H σ (ρ.set i (.val (.lst ds))) := by
  obtain ⟨a, xs, h1, h2, hf, hb, h3⟩ := r.s.at' _ _ e
  have xf := r.x.freeze (r.new i ds a e h1) h2 hf hb
  have le : g.le (g.put a (.lst xs)) := Gh.put_le hf
  refine ⟨g.put a (.lst xs), le, xf, ⟨by simp [r.s.len], fun j sv ej => ?_⟩, fun j fs b e1 e2 => ?_, fun j j' fs fs' b e1 e2 e3 e4 => ?_⟩
  · by_cases h : i = j
    · subst h
      cases get_set_self ej
      exact ⟨.ref a, h1, .lst (.of put_F) (RepL.mono le _ _ h3)⟩
    · have ej' := get_set_ne ej h
      have z := r.s.at' j sv ej'
      cases sv with
      | non => trivial
      | val d => obtain ⟨v, z1, z2⟩ := z; exact ⟨v, z1, Rep.mono le _ _ z2⟩
      | mls fs =>
        obtain ⟨b, zs, z1, z2, z3, z4, z5⟩ := z
        have nb : b ≠ a := fun w => h (r.dist i j ds fs a e ej' h1 (by rw [z1, w]))
        refine ⟨b, zs, z1, z2, ?_, z4, RepL.mono le _ _ z5⟩
        show upd g.F a _ b = none
        rw [upd_ne nb]; exact z3
  · have h : i ≠ j := fun z => by subst z; cases get_set_self e1
    exact r.new j fs b (get_set_ne e1 h) e2
  · have h : i ≠ j := fun z => by subst z; cases get_set_self e1
    have h' : i ≠ j' := fun z => by subst z; cases get_set_self e2
    exact r.dist j j' fs fs' b (get_set_ne e1 h) (get_set_ne e2 h') e3 e4
theorem SR.setVs (r : SR ob K g0 H0 g H σ ρ) : ∀ {js : List Nat} {vs : List V} {ds : List D}, RepL K g vs ds → SR ob K g0 H0 g H (setV σ (js.zip vs)) ((js.zip ds).foldl (fun r p => r.set p.1 (.val p.2)) ρ) := by
  intro js
  induction js generalizing σ ρ with
  | nil => intro vs ds _; exact r
  | cons j js ih =>
    intro vs ds q
    cases q with
    | nil => exact r
    | cons h1 h2 => exact ih (r.setVal j h1) h2
end

def PostF (ob : Ob) (K : PySem.W.Frag) (g0 : Gh) (H0 : Hp) (g : Gh) (fl : Fl) (Dn : Ends) : Prop := match fl with
  | .nx ρ' => ∀ σ' g' H', g.le g' → SR ob K g0 H0 g' H' σ' ρ' → Dn.nx σ' H'
  | .ct ρ' => ∀ σ' g' H', g.le g' → SR ob K g0 H0 g' H' σ' ρ' → Dn.ct σ' H'
  | .bk ρ' => ∀ σ' g' H', g.le g' → SR ob K g0 H0 g' H' σ' ρ' → Dn.bk σ' H'
  | .rt d => ∀ v g' H', Ext ob g0 H0 g' H' → Rep K g' v d → Dn.rt v H'
theorem PostF.le {ob : Ob} {K : PySem.W.Frag} {g0 g g1 : Gh} {H0 : Hp} {fl : Fl} {Dn : Ends} (p : PostF ob K g0 H0 g fl Dn) (l : g.le g1) : PostF ob K g0 H0 g1 fl Dn := by
  cases fl with
  | nx ρ' => exact fun σ' g' H' m r => p σ' g' H' (l.trans m) r
  | ct ρ' => exact fun σ' g' H' m r => p σ' g' H' (l.trans m) r
  | bk ρ' => exact fun σ' g' H' m r => p σ' g' H' (l.trans m) r
  | rt d => exact p
section
variable (ob : Ob) (Φ : Nat → List D → Option D) (wf : Nat)
def SndS (c : S) : Prop := ∀ {X : Cx} {Γ : Gam} {k : Nat} {st : Stmt} {g0 g : Gh} {H0 H : Hp} {σ : L2.St} {ρ : Rho} {fl : Fl}, Ctx X Γ → Γ.fnc = none → Fns ob Φ X Γ k → SR ob X.K g0 H0 g H σ ρ → mS Γ c st = true → evS Φ wf c ρ = some fl → ∀ Dn, PostF ob X.K g0 H0 g fl Dn → wpS X st Dn σ H
def SndSs (c : Ss) : Prop := ∀ {X : Cx} {Γ : Gam} {k : Nat} {sts : List Stmt} {g0 g : Gh} {H0 H : Hp} {σ : L2.St} {ρ : Rho} {fl : Fl}, Ctx X Γ → Γ.fnc = none → Fns ob Φ X Γ k → SR ob X.K g0 H0 g H σ ρ → mSs Γ c sts = true → evSs Φ wf c ρ = some fl → ∀ Dn, PostF ob X.K g0 H0 g fl Dn → wpSs X sts Dn σ H
end
section
variable {ob : Ob} {Φ : Nat → List D → Option D} {wf : Nat} {X : Cx} {Γ : Gam} {k : Nat} {g0 g : Gh} {H0 H : Hp} {σ : L2.St} {ρ : Rho}
theorem SR.here (c : Ctx X Γ) (f : Fns ob Φ X Γ k) (r : SR ob X.K g0 H0 g H σ ρ) : Here ob Φ X Γ k g H σ ρ := ⟨c, f, r.x.ok, r.s⟩
theorem sw_plain {c : E} {v : Expr} (m : mE Γ c v = true) (n : ∀ y gs sc p, v ≠ .ListComp y gs sc p) (t : Option Expr) (l : Nat) (env : Env) : swapsWith v t l env = pure false := by
  cases v <;> first | rfl | exact absurd rfl (n _ _ _ _) | (exfalso; cases c <;> simp [mE] at m)
theorem sw_name {y : Expr} {gs : List Comprehension} {sc : Scope} {p px : Pos} {x : Str} {l : Nat} {env : Env} :
    swapsWith (.ListComp y gs sc p) (some (.Name x px)) l env = pure (env.blockKind == .function && env.kindOf x == some .local && px.line == p.line && !(sc.names.any fun (n, k) => n == x && (k == .local || k == .cell))) := rfl
theorem sw_other {c : E} {v : Expr} (m : mE Γ c v = true) (t : Expr) (n : ∀ x p, t ≠ .Name x p) (l : Nat) (env : Env) : swapsWith v (some t) l env = pure false := by
  cases v <;> first | rfl | (exfalso; cases c <;> simp [mE] at m; done) | skip
  cases t <;> first | rfl | exact absurd rfl (n _ _)
theorem tg_parts (c : Ctx X Γ) {j : Nat} {x : Str} (m : tgB Γ j x = true) : X.N.Nodup ∧ X.N[j]? = some x ∧ Loc X.env.scope x ∧ (X.fn x = true ∨ X.env.scope.names.lookup x = some .local) := by
  unfold tgB nameAt at m
  obtain ⟨m1, m2⟩ := and2 m
  obtain ⟨h1, h2⟩ := loc_of c m2
  exact ⟨by rw [c.N]; exact c.nd, by rw [c.N]; exact of_decide_eq_true m1, h1, h2⟩
/-- name = e, where e's end is known both ways -/
theorem asg_wp {e : E} {x : Str} {v : Expr} {px pos : Pos} {i : Nat} {Dn : Ends} (h : Here ob Φ X Γ k g H σ ρ) (m : tgB Γ i x = true) (me : mE Γ e v = true) {d : D} (ee : evE Φ e ρ = some d)
    (q1 : wpE X v σ H (fun y H1 => Dn.nx (σ.set i (some y)) H1)) (q2 : ∀ es, d = .lst es → fresh e = true → PostL ob X.K g H es (fun y H1 => Dn.nx (σ.set i (some y)) H1)) : wpS X (.Assign [.Name x px] v pos) Dn σ H := by
  obtain ⟨hN, hi, hx, hf⟩ := tg_parts h.c m
  by_cases hc : ∃ y gs sc p, v = .ListComp y gs sc p
  · obtain ⟨y, gs, sc, p, rfl⟩ := hc
    by_cases hs : (X.env.blockKind == .function && X.env.kindOf x == some .local && px.line == p.line && !(sc.names.any fun (n, k) => n == x && (k == .local || k == .cell))) = true
    · cases e with
      | comp elt tg it ts own =>
        obtain ⟨y', tx, ix, ifs, sc', p', ex, mb, mi, me', mt, mo, ms, ml⟩ := comp_txt me
        cases ex
        obtain ⟨ds, es, e1, e2, hl, rfl⟩ := evE_comp ee
        have ok := blk_of h.c mb
        have hloc : X.env.scope.names.lookup x = some .local := by
          obtain ⟨hs1, _⟩ := and2 hs
          obtain ⟨hs1, _⟩ := and2 hs1
          obtain ⟨_, hs2⟩ := and2 hs1
          simpa [Env.kindOf] using hs2
        refine (ps_setLc (i := i) h.c.calm hN hi hloc (by rw [sw_name, hs]) pi_wp ok (g := fun v σ H Q => ∀ (s : Shared) (H0 : Hp) (C : Addr) (cl : List (Str × Addr)) (fp : List Addr), wpG (X.blk s H0 sc (compEnvC sc cl C X.env) fp) tx v σ H Q)
          (tt := fun σ H Q => ∀ (s : Shared) (H0 : Hp) (C : Addr) (cl : List (Str × Addr)) (fp : List Addr), wpTs (X.blk s H0 sc (compEnvC sc cl C X.env) fp) ifs σ H Q)
          (te := fun σ H Q => ∀ (s : Shared) (H0 : Hp) (C : Addr) (cl : List (Str × Addr)) (fp : List Addr), wpE (X.blk s H0 sc (compEnvC sc cl C X.env) fp) y σ H Q)
          (fun s H C cl fp => ⟨fun pins s' σ' H' v u Q' I r hq => hq s H C cl fp pins s' u I r⟩) (fun s H C cl fp => ⟨fun pins s' σ' H' Q' I hq => hq s H C cl fp pins s' I⟩) (fun s H C cl fp => ⟨fun pins s' σ' H' Q' I hq => hq s H C cl fp pins s' I⟩) (mIt_set mi X.env)).wp ?_
        rw [own_snd]
        exact lc_read (sndIt ob Φ it) (sndE ob Φ elt).1 (sndTs1 ob Φ ts) h mi me' mt mo ms ml ok.kind e1 e2 hl (q2 es rfl rfl)
      | _ => simp [mE] at me
    · have hs' : (X.env.blockKind == .function && X.env.kindOf x == some .local && px.line == p.line && !(sc.names.any fun (n, k) => n == x && (k == .local || k == .cell))) = false := by
        revert hs
        cases (X.env.blockKind == .function && X.env.kindOf x == some .local && px.line == p.line && !(sc.names.any fun (n, k) => n == x && (k == .local || k == .cell))) <;> simp
      exact (ps_set (i := i) hN hi hx pe_wp (by rw [sw_name, hs']) hf).wp q1
  · exact (ps_set (i := i) hN hi hx pe_wp (sw_plain me (fun y gs sc p z => hc ⟨y, gs, sc, p, z⟩) _ _ _) hf).wp q1
theorem snds_set {i : Nat} {e : E} : SndS ob Φ wf (.set i e) := by
  refine fun {X Γ k st g0 g H0 H σ ρ fl} c fc f r m ev Dn q => ?_
  cases st with
  | Assign ts v pos =>
    match ts, m with
    | [.Name x px], m =>
      obtain ⟨m1, m2⟩ := and2 (show (tgB Γ i x && mE Γ e v) = true from m)
      simp only [evS] at ev
      split at ev
      · rename_i d ed
        cases ev
        obtain ⟨ed, np⟩ := pure_some ed
        have post : PostE ob X.K g H d (fun y H1 => Dn.nx (σ.set i (some y)) H1) := fun v' g' H' x' r' => q _ _ _ x'.le ((r.ext x').setVal i (r'.pure np))
        exact asg_wp (r.here c f) m1 m2 ed ((sndE ob Φ e).1 (r.here c f) m2 ed _ post) fun es z _ => by subst z; exact post.frz
      · cases ev
  | _ => cases m
theorem snds_setM {i : Nat} {e : E} : SndS ob Φ wf (.setM i e) := by
  refine fun {X Γ k st g0 g H0 H σ ρ fl} c fc f r m ev Dn q => ?_
  cases st with
  | Assign ts v pos =>
    match ts, m with
    | [.Name x px], m =>
      obtain ⟨m1, m2⟩ := and2 (show (tgB Γ i x && mE Γ e v) = true from m)
      simp only [evS] at ev
      split at ev
      · rename_i hfr
        split at ev
        · rename_i ds ed
          cases ev
          have post : PostL ob X.K g H ds (fun y H1 => Dn.nx (σ.set i (some y)) H1) := fun p xs g' H' x' h0 h1 h2 h3 h4 => q _ _ _ x'.le (r.setOwn i x' h0 h1 h2 h3 h4)
          exact asg_wp (r.here c f) m1 m2 ed ((sndE ob Φ e).2 hfr (r.here c f) m2 ed _ post) fun es z _ => by cases z; exact post
        · cases ev
      · cases ev
  | _ => cases m
theorem snds_unp {is : List Nat} {e : E} : SndS ob Φ wf (.unp is e) := by
  refine fun {X Γ k st g0 g H0 H σ ρ fl} c fc f r m ev Dn q => ?_
  cases st with
  | Assign ts v pos =>
    match ts, m with
    | [.Tuple tt kk p], m =>
      obtain ⟨m1, m3⟩ := and2 (show (mTgs Γ is tt && mE Γ e v && !isTup v) = true from m)
      obtain ⟨m1, m2⟩ := and2 m1
      simp only [evS] at ev
      split at ev
      · rename_i d ed
        match is, m1, ev with
        | j :: i :: js, m1, ev =>
          cases est : setTg (j :: i :: js) d ρ with
          | none => rw [est] at ev; cases ev
          | some ρ' =>
            rw [est] at ev
            cases ev
            obtain ⟨ds, rfl, hl, rfl⟩ := setTg_more est
            have hw : swappedStores [.Tuple tt kk p] v X.env = pure none := by
              cases v <;> first | rfl | cases m3
            refine (ps_asg pe_wp pg_wp (sw_other m2 _ (fun _ _ z => by cases z) _ _) hw rfl).wp ((sndE ob Φ e).1 (r.here c f) m2 ed _ fun v' g' H' x' r' => ?_)
            have r1 := r.ext x'
            obtain ⟨h1, h2⟩ := assign_len _ _ X.env m1
            obtain ⟨a, xs, rfl, hs, rl⟩ := RepR.tuple x'.ok r'
            refine (pg_tup c.calm (pgs_names c _ _ m1) h1 h2).wp ⟨a, xs, rfl, hs, by rw [rl.len, hl], ?_⟩
            exact gNames_of _ _ _ (by rw [rl.len, hl]) (q _ _ _ x'.le (r1.setVs rl))
      · cases ev
  | _ => cases m
theorem blk_fn (c : Ctx X Γ) : X.env.blockKind = .function := by
  unfold Env.blockKind
  rw [c.sc, c.kind]
  rfl
theorem snds_par {i j : Nat} {a b : E} : SndS ob Φ wf (.par i j a b) := by
  refine fun {X Γ k st g0 g H0 H σ ρ fl} c fc f r m ev Dn q => ?_
  cases st with
  | Assign ts v pos =>
    match ts, v, m with
    | [.Tuple [.Name x px, .Name y py] kt pt], .Tuple [u, w] k2 pt2, m =>
      have m' : (nameAt Γ i x && nameAt Γ j y && decide (i ≠ j) && locL Γ.sc x && locL Γ.sc y && mE Γ a u && mE Γ b w && decide (px.line = py.line) && decide (x ≠ y) && Γ.fnc.isNone &&
        !(foldedForSure 8 u && foldedForSure 8 w) && !(constantsAlone 8 u && constantsAlone 8 w)) = true := m
      simp only [Bool.and_eq_true, decide_eq_true_eq] at m'
      obtain ⟨⟨⟨⟨⟨⟨⟨⟨⟨⟨⟨m1, m2⟩, m3⟩, m4⟩, m5⟩, m6⟩, m7⟩, m8⟩, m9⟩, m10⟩, m11⟩, m12⟩ := m'
      unfold nameAt at m1 m2
      unfold locL at m4 m5
      have hx : X.env.scope.names.lookup x = some .local := by rw [c.sc]; exact of_decide_eq_true m4
      have hy : X.env.scope.names.lookup y = some .local := by rw [c.sc]; exact of_decide_eq_true m5
      have hw : swappedStores [.Tuple [.Name x px, .Name y py] kt pt] (.Tuple [u, w] k2 pt2) X.env = pure (some [x, y]) := by
        have kx : X.env.kindOf x = some .local := hx
        have ky : X.env.kindOf y = some .local := hy
        have nd : ([x, y] : List Str).eraseDups.length = 2 := by
          have : (y == x) = false := by simpa using (fun z : y = x => m9 z.symm)
          simp [List.eraseDups_cons, this]
        unfold swappedStores
        simp only [blk_fn c, kx, ky, List.any_cons, List.any_nil, List.filterMap_cons, List.filterMap_nil, Expr.pos, List.head?_cons, Option.map_some, Option.getD_some, List.length_cons, List.length_nil, m8, List.all_cons, List.all_nil]
        simp [nd]
        rw [if_neg (by
          rintro (z | z)
          · cases u <;> first | (cases z; done) | (cases a <;> simp [mE] at m6)
          · cases w <;> first | (cases z; done) | (cases b <;> simp [mE] at m7)), if_neg (fun z => by rw [z.1, z.2] at m11; cases m11), if_neg (fun z => by rw [z.1, z.2] at m12; cases m12)]
      simp only [evS] at ev
      split at ev
      · rename_i d1 d2 e1 e2
        cases ev
        obtain ⟨e1, n1⟩ := pure_some e1
        obtain ⟨e2, n2⟩ := pure_some e2
        refine (ps_par (i := i) (j := j) c.calm (by rw [c.N]; exact c.nd) (by rw [c.N]; exact of_decide_eq_true m1) (by rw [c.N]; exact of_decide_eq_true m2) m3 hx hy (pa_cons pe_wp (pa_cons pe_wp pa_nil (star_cons m7 [] X.env)) (star_cons m6 _ X.env)) hw rfl).wp ?_
        refine (sndE ob Φ a).1 (r.here c f) m6 e1 _ fun v1 g1 H1 x1 r1 => (sndE ob Φ b).1 ((r.ext x1).here c f) m7 e2 _ fun v2 g2 H2 x2 r2 => ⟨v1, v2, rfl, ?_⟩
        exact q _ _ _ (x1.trans x2).le ((((r.ext x1).ext x2).setVal i (Rep.mono x2.le _ _ (r1.pure n1))).setVal j (r2.pure n2))
      · cases ev
  | _ => cases m
end
end MP

set_option maxHeartbeats 1000000
/-! MiniPy: statements, further; defs. -/
namespace MP
open PySem PySem.Spec PyProof.Rows L2
section
variable {ob : Ob} {Φ : Nat → List D → Option D} {wf : Nat} {X : Cx} {Γ : Gam} {k : Nat} {g0 g : Gh} {H0 H : Hp} {σ : L2.St} {ρ : Rho}
theorem slot_pe (c : Ctx X Γ) {i : Nat} {x : Str} {p : Pos} (m : slotB Γ i x = true) : PE X (.Name x p) (tVar i) := by
  simp only [slotB, nameAt, Bool.and_eq_true, decide_eq_true_eq, Bool.not_eq_true'] at m
  obtain ⟨⟨⟨m1, m2⟩, m3⟩, m4⟩ := m
  exact pe_var (by rw [c.N]; exact m1) (by rw [c.sc]; exact vis_of m2) m3 m4
theorem snds_aug {i : Nat} {op : BOp} {e : E} : SndS ob Φ wf (.aug i op e) := by
  refine fun {X Γ k st g0 g H0 H σ ρ fl} c fc f r m ev Dn q => ?_
  cases st with
  | AugAssign t o v pos =>
    cases t with
    | Name x px =>
      obtain ⟨ma1, m3⟩ := and2 (show (tgB Γ i x && opB op o && mE Γ e v) = true from m)
      obtain ⟨ma2, m2⟩ := and2 ma1
      obtain rfl := opB_eq m2
      obtain ⟨hN, hi, hx, hf⟩ := tg_parts c ma2
      simp only [evS] at ev
      split at ev
      · rename_i x1 y1 er ee
        obtain ⟨w, hw, rw'⟩ := r.s.at' _ _ er
        cases rw'
        split at ev
        · cases ev
          refine (ps_aug hN hi hx pe_wp ip_add hf).wp ⟨_, hw, (sndE ob Φ e).1 (r.here c f) m3 ee _ fun v' g' H' x' r' => ?_⟩
          cases (show Rep _ _ _ _ from r')
          exact ⟨_, _, rfl, rfl, q _ _ _ x'.le ((r.ext x').setVal i (.int _))⟩
        · cases ev
          refine (ps_aug hN hi hx pe_wp ip_sub hf).wp ⟨_, hw, (sndE ob Φ e).1 (r.here c f) m3 ee _ fun v' g' H' x' r' => ?_⟩
          cases (show Rep _ _ _ _ from r')
          exact ⟨_, _, rfl, rfl, q _ _ _ x'.le ((r.ext x').setVal i (.int _))⟩
        · cases ev
      · cases ev
    | _ => cases m
  | _ => cases m
theorem line63' : line < 2 ^ 63 := by decide
theorem snds_app {i : Nat} {e : E} : SndS ob Φ wf (.app i e) := by
  refine fun {X Γ k st g0 g H0 H σ ρ fl} c fc f r m ev Dn q => ?_
  cases st with
  | Expr ex pos =>
    match ex, m with
    | .Call (.Attribute (.Name x px) mn ap) [v] [] cp, m =>
      obtain ⟨ma3, m4⟩ := and2 (show (slotB Γ i x && decide (mn = ("append" : Str)) && mE Γ e v && decide (ap.endLine = cp.line)) = true from m)
      obtain ⟨ma4, m3⟩ := and2 ma3
      obtain ⟨ma5, m2⟩ := and2 ma4
      obtain rfl := of_decide_eq_true m2
      simp only [evS] at ev
      split at ev
      · rename_i ds d er ee
        split at ev
        · rename_i hl
          cases ev
          obtain ⟨ee, np⟩ := pure_some ee
          obtain ⟨a, xs, h1, h2, h3, h4, h5⟩ := r.s.at' _ _ er
          refine (ps_expr (pe_bm PySem.F.plainAttrs_list PySem.F.slot_list_append PySem.F.type_list_append mt_append (slot_pe c ma5) (pa_cons pe_wp pa_nil (star_cons m3 [] X.env)) rfl (by rw [star_cons m3 [] X.env]; rfl) (by simpa using m4) (star_cons m3 [] X.env) rfl)).wp ?_
          refine ⟨.ref a, h1, .inl ⟨rfl, xs, .of h2⟩, ?_⟩
          refine (sndE ob Φ e).1 (r.here c f) m3 ee _ fun v' g' H' x' r' => ?_
          have r1 := r.ext x'
          have h2' := x'.keep a _ h2 h4
          have h5' := RepL.mono x'.le _ _ h5
          refine ⟨a, xs, v', rfl, rfl, h2', ?_, q _ _ _ x'.le (r1.write er h1 (h5'.append (.cons (r'.pure np) .nil)))⟩
          rw [h5.len, ← line_eq]
          exact of_decide_eq_true hl
        · cases ev
      · cases ev
  | _ => cases m
theorem snds_setIx {i : Nat} {j e : E} : SndS ob Φ wf (.setIx i j e) := by
  refine fun {X Γ k st g0 g H0 H σ ρ fl} c fc f r m ev Dn q => ?_
  cases st with
  | Assign ts v pos =>
    match ts, m with
    | [.Subscript (.Name x px) y sp], m =>
      obtain ⟨ma6, m3⟩ := and2 (show (slotB Γ i x && mE Γ j y && mE Γ e v) = true from m)
      obtain ⟨ma7, m2⟩ := and2 ma6
      simp only [evS] at ev
      split at ev
      · rename_i ds n d er ej ee
        split at ev
        · rename_i nn hn
          cases ev
          obtain ⟨ee, np⟩ := pure_some ee
          obtain ⟨a, xs, h1, h2, h3, h4, h5⟩ := r.s.at' _ _ er
          have hsw : swapsWith v (some (.Subscript (.Name x px) y sp)) pos.line X.env = pure false := sw_other m3 _ (fun _ _ z => by cases z) _ _
          refine (ps_asg pe_wp (pg_sub (slot_pe c ma7) pe_wp set_list (fun v => ?_)) hsw (by cases v <;> rfl) rfl).wp ?_
          · cases y <;> first | rfl | (exfalso; cases j <;> simp [mE] at m2)
          refine (sndE ob Φ e).1 (r.here c f) m3 ee _ fun v' g' H' x' r' => ?_
          have r1 := r.ext x'
          refine ⟨.ref a, h1, (sndE ob Φ j).1 (r1.here c f) m2 ej _ fun v2 g2 H2 x2 r2 => ?_⟩
          have x12 := x'.trans x2
          have h2' := x12.keep a _ h2 h4
          have h5' := RepL.mono x12.le _ _ h5
          cases (show Rep _ _ _ _ from r2)
          exact ⟨a, xs, n, nn, rfl, rfl, h2', by rw [h5.len]; exact hn, q _ _ _ x12.le ((r1.ext x2).write er h1 (h5'.set nn (Rep.mono x2.le _ _ (r'.pure np))))⟩
        · cases ev
      · cases ev
  | _ => cases m
theorem snds_ins {i : Nat} {j e : E} : SndS ob Φ wf (.ins i j e) := by
  refine fun {X Γ k st g0 g H0 H σ ρ fl} c fc f r m ev Dn q => ?_
  cases st with
  | Expr ex pos =>
    match ex, m with
    | .Call (.Attribute (.Name x px) mn ap) [y, v] [] cp, m =>
      obtain ⟨ma8, m5⟩ := and2 (show (slotB Γ i x && decide (mn = ("insert" : Str)) && mE Γ j y && mE Γ e v && decide (ap.endLine = cp.line)) = true from m)
      obtain ⟨ma9, m4⟩ := and2 ma8
      obtain ⟨ma10, m3⟩ := and2 ma9
      obtain ⟨ma11, m2⟩ := and2 ma10
      obtain rfl := of_decide_eq_true m2
      simp only [evS] at ev
      split at ev
      · rename_i ds n d er ej ee
        split at ev
        · rename_i hl
          cases ev
          simp only [Bool.and_eq_true, decide_eq_true_eq] at hl
          obtain ⟨⟨l1, l2⟩, l3⟩ := hl
          obtain ⟨ee, np⟩ := pure_some ee
          obtain ⟨a, xs, h1, h2, h3, h4, h5⟩ := r.s.at' _ _ er
          refine (ps_expr (pe_bm PySem.F.plainAttrs_list PySem.F.slot_list_insert PySem.F.type_list_insert mt_insert (slot_pe c ma11) (pa_cons pe_wp (pa_cons pe_wp pa_nil (star_cons m4 [] X.env)) (star_cons m3 _ X.env)) rfl (by rw [star_cons m3 _ X.env, star_cons m4 _ X.env]; rfl) (by simpa using m5) (star_cons m3 _ X.env) (by rw [star_cons m4 _ X.env]; rfl))).wp ?_
          refine ⟨.ref a, h1, .inl ⟨rfl, xs, .of h2⟩, ?_⟩
          refine (sndE ob Φ j).1 (r.here c f) m3 ej _ fun v' g' H' x' r' => (sndE ob Φ e).1 ((r.ext x').here c f) m4 ee _ fun v2 g2 H2 x2 r2 => ?_
          have x12 := x'.trans x2
          have h2' := x12.keep a _ h2 h4
          have h5' := RepL.mono x12.le _ _ h5
          cases (show Rep _ _ _ _ from r')
          have z := q σ g2 _ x12.le ((r.ext x12).write er h1 ((h5'.take n.toNat).append (.cons (r2.pure np) (h5'.drop n.toNat))))
          refine ⟨a, xs, n, v2, rfl, rfl, h2', ?_, l1, ?_, ?_⟩
          · rw [h5.len, ← line_eq]; exact l3
          · have := line63'
            omega
          · rw [List.append_assoc]
            exact z
        · cases ev
      · cases ev
  | _ => cases m
theorem snds_popTo {kk i : Nat} {j : E} : SndS ob Φ wf (.popTo kk i j) := by
  refine fun {X Γ k st g0 g H0 H σ ρ fl} c fc f r m ev Dn q => ?_
  cases st with
  | Assign ts v pos =>
    match ts, v, m with
    | [.Name z pz], .Call (.Attribute (.Name x px) mn ap) [y] [] cp, m =>
      obtain ⟨ma12, m6⟩ := and2 (show (tgB Γ kk z && slotB Γ i x && decide (kk ≠ i) && decide (mn = ("pop" : Str)) && mE Γ j y && decide (ap.endLine = cp.line)) = true from m)
      obtain ⟨ma13, m5⟩ := and2 ma12
      obtain ⟨ma14, m4⟩ := and2 ma13
      obtain ⟨ma15, m3⟩ := and2 ma14
      obtain ⟨ma16, m2⟩ := and2 ma15
      obtain rfl := of_decide_eq_true m4
      obtain ⟨hN, hi, hx, hf⟩ := tg_parts c ma16
      simp only [evS] at ev
      split at ev
      · rename_i ds n er ej
        split at ev
        · rename_i hrg
          split at ev
          · rename_i nn hn
            split at ev
            · rename_i d hd
              cases ev
              obtain ⟨a, xs, h1, h2, h3, h4, h5⟩ := r.s.at' _ _ er
              refine (ps_set (i := kk) hN hi hx (pe_bm PySem.F.plainAttrs_list PySem.F.slot_list_pop PySem.F.type_list_pop mt_popAt (slot_pe c m2) (pa_cons pe_wp pa_nil (star_cons m5 [] X.env)) rfl (by rw [star_cons m5 [] X.env]; rfl) (by simpa using m6) (star_cons m5 [] X.env) rfl) rfl hf).wp ?_
              refine ⟨.ref a, h1, .inl ⟨rfl, xs, .of h2⟩, ?_⟩
              refine (sndE ob Φ j).1 (r.here c f) m5 ej _ fun v' g' H' x' r' => ?_
              have r1 := r.ext x'
              have h2' := x'.keep a _ h2 h4
              have h5' := RepL.mono x'.le _ _ h5
              cases (show Rep _ _ _ _ from r')
              obtain ⟨w, hw, rw'⟩ := h5'.get hd
              obtain ⟨s1, s2, s3, s4⟩ := ixN_seq hn
              have hrg' := okRng_of hrg
              refine ⟨a, xs, n, nn, w, rfl, rfl, h2', by omega, by omega, by rw [h5.len]; exact s1, hw, ?_⟩
              exact q _ _ _ x'.le ((r1.write er h1 (h5'.eraseIdx nn)).setVal kk rw')
            · cases ev
          · cases ev
        · cases ev
      · cases ev
  | _ => cases m
theorem snds_popE {i : Nat} : SndS ob Φ wf (.popE i) := by
  refine fun {X Γ k st g0 g H0 H σ ρ fl} c fc f r m ev Dn q => ?_
  cases st with
  | Expr ex pos =>
    match ex, m with
    | .Call (.Attribute (.Name x px) mn ap) [] [] cp, m =>
      obtain ⟨ma17, m3⟩ := and2 (show (slotB Γ i x && decide (mn = ("pop" : Str)) && decide (ap.endLine = cp.line)) = true from m)
      obtain ⟨ma18, m2⟩ := and2 ma17
      obtain rfl := of_decide_eq_true m2
      simp only [evS] at ev
      split at ev
      · rename_i ds er
        split at ev
        · cases ev
        · rename_i hn
          cases ev
          obtain ⟨a, xs, h1, h2, h3, h4, h5⟩ := r.s.at' _ _ er
          refine (ps_expr (pe_bm0 PySem.F.plainAttrs_list PySem.F.slot_list_pop PySem.F.type_list_pop mt_pop (slot_pe c ma18) rfl (by simpa using m3))).wp ?_
          have hx : 0 < xs.length := by
            rw [h5.len]
            cases ds with
            | nil => exact absurd rfl hn
            | cons _ _ => exact Nat.succ_pos _
          refine ⟨.ref a, h1, .inl ⟨rfl, xs, .of h2⟩, a, xs, xs[xs.length - 1], rfl, rfl, h2, List.getElem?_eq_getElem (by omega), q _ _ _ (.refl _) (r.write er h1 h5.dropLast)⟩
      · cases ev
  | _ => cases m
theorem snds_if {t : T} {a b : Ss} (ha : SndSs ob Φ wf a) (hb : SndSs ob Φ wf b) : SndS ob Φ wf (.ifS t a b) := by
  refine fun {X Γ k st g0 g H0 H σ ρ fl} c fc f r m ev Dn q => ?_
  cases st with
  | If cx x y pos =>
    obtain ⟨ma19, m3⟩ := and2 (show (mT Γ t cx && mSs Γ a x && mSs Γ b y) = true from m)
    obtain ⟨ma20, m2⟩ := and2 ma19
    simp only [evS] at ev
    refine (ps_if pt_wp pss_wp pss_wp).wp ?_
    split at ev
    · rename_i et
      refine sndT ob Φ t (r.here c f) ma20 et _ fun g1 H1 x1 => ?_
      show (if true = true then _ else _)
      rw [if_pos rfl]
      exact ha c fc f (r.ext x1) m2 ev Dn (q.le x1.le)
    · rename_i et
      refine sndT ob Φ t (r.here c f) ma20 et _ fun g1 H1 x1 => ?_
      show (if false = true then _ else _)
      rw [if_neg (by decide)]
      exact hb c fc f (r.ext x1) m3 ev Dn (q.le x1.le)
    · cases ev
  | _ => cases m
theorem passes (c : Ctx X Γ) : PassesOwn (model X.prog X.w) X.A X.env X.xe := by
  rw [c.xe]
  exact PassesOwn.never
theorem snds_while {t : T} {b : Ss} (hb : SndSs ob Φ wf b) : SndS ob Φ wf (.whileS t b) := by
  refine fun {X Γ k st g0 g H0 H σ ρ fl} c fc f r m ev Dn q => ?_
  cases st with
  | While cx bx orl pos =>
    cases orl with
    | nil =>
      obtain ⟨ma21, m2⟩ := and2 (show (mT Γ t cx && mSs Γ b bx) = true from m)
      have ev' : whileM (evT Φ t) (evSs Φ wf b) wf ρ = some fl := by simpa only [evS] using ev
      refine (ps_while (passes c) pt_wp pss_wp).wp ⟨fun n σ H => ∃ g1 ρ, SR ob X.K g0 H0 g1 H σ ρ ∧ g.le g1 ∧ whileM (evT Φ t) (evSs Φ wf b) n ρ = some fl, ⟨wf, g, ρ, r, .refl _, ev'⟩, ?_⟩
      rintro n σ1 H1 ⟨g1, ρ1, r1, le1, e1⟩
      cases n with
      | zero => cases e1
      | succ n =>
        unfold whileM at e1
        split at e1
        · cases e1
        · rename_i et
          cases e1
          refine sndT ob Φ t (r1.here c f) ma21 et _ fun g2 H2 x2 => ?_
          show (if false = true then _ else _)
          rw [if_neg (by decide)]
          exact q _ _ _ (le1.trans x2.le) (r1.ext x2)
        · rename_i et
          refine sndT ob Φ t (r1.here c f) ma21 et _ fun g2 H2 x2 => ?_
          show (if true = true then _ else _)
          rw [if_pos rfl]
          refine ⟨fun σ' H' => ∃ g1 ρ, SR ob X.K g0 H0 g1 H' σ' ρ ∧ g.le g1 ∧ whileM (evT Φ t) (evSs Φ wf b) n ρ = some fl, fun σ' H' z => ⟨n, Nat.lt_succ_self n, z⟩, ?_⟩
          split at e1
          · rename_i ρ' eb
            exact hb c fc f (r1.ext x2) m2 eb _ fun σ' g' H' l' r' => ⟨g', ρ', r', (le1.trans x2.le).trans l', e1⟩
          · rename_i ρ' eb
            exact hb c fc f (r1.ext x2) m2 eb _ fun σ' g' H' l' r' => ⟨g', ρ', r', (le1.trans x2.le).trans l', e1⟩
          · rename_i ρ' eb
            cases e1
            exact hb c fc f (r1.ext x2) m2 eb _ fun σ' g' H' l' r' => q _ _ _ ((le1.trans x2.le).trans l') r'
          · rename_i d eb
            cases e1
            exact hb c fc f (r1.ext x2) m2 eb _ (PostF.le (fl := .rt d) q (le1.trans x2.le))
          · cases e1
    | cons _ _ => cases m
  | _ => cases m
theorem snds_for {tg : List Nat} {it : It} {b : Ss} (hb : SndSs ob Φ wf b) : SndS ob Φ wf (.forS tg it b) := by
  refine fun {X Γ k st g0 g H0 H σ ρ fl} c fc f r m ev Dn q => ?_
  cases st with
  | For tx ix bx orl pos =>
    cases orl with
    | nil =>
      obtain ⟨ma22, m3⟩ := and2 (show (mTg Γ tg tx && mIt Γ it ix && mSs Γ b bx) = true from m)
      obtain ⟨ma23, m2⟩ := and2 ma22
      simp only [evS] at ev
      split at ev
      · rename_i ds ei
        refine (ps_for (passes c) c.calm pi_wp pg_wp pss_wp (mIt_set m2 X.env)).wp ?_
        refine (sndIt ob Φ it (r.here c f) m2).2 ei _ fun J g1 H1 x1 en => ?_
        let body : D → Rho → Option Fl := fun d ρ => match setTg tg d ρ with | some ρ' => evSs Φ wf b ρ' | none => none
        refine ⟨fun i n σ H => n = ds.length - i ∧ i ≤ ds.length ∧ ∃ g ρ, SR ob X.K g0 H0 g H σ ρ ∧ g1.le g ∧ forM body (ds.drop i) ρ = some fl, ⟨ds.length, by simp, Nat.zero_le _, g1, ρ, r.ext x1, .refl _, ev⟩, ?_⟩
        rintro i n σ2 H2 ⟨rfl, hi, g2, ρ2, r2, le2, e2⟩
        obtain ⟨en1, en2⟩ := en g2 H2 le2 r2.x.ok i
        by_cases hlt : i < ds.length
        · rw [List.drop_eq_getElem_cons hlt] at e2
          obtain ⟨go, yld⟩ := en1 _ (List.getElem?_eq_getElem hlt)
          refine .inr ⟨go, fun σ' H' => i + 1 ≤ ds.length ∧ ∃ g ρ, SR ob X.K g0 H0 g H' σ' ρ ∧ g1.le g ∧ forM body (ds.drop (i + 1)) ρ = some fl, fun σ' H' z => ⟨_, by omega, rfl, z⟩, fun v H3 y3 => ?_⟩
          obtain ⟨g3, x3, rv⟩ := yld v H3 y3
          have r3 := r2.ext x3
          unfold forM at e2
          -- the target, then the body
          have go2 : ∀ fl', body ds[i] ρ2 = some fl' → ∀ Dn', PostF ob X.K g0 H0 g3 fl' Dn' → wpG X tx v σ2 H3 (fun σ' H' => wpSs X bx Dn' σ' H') := by
            intro fl' eb Dn' q'
            have eb' : (match setTg tg ds[i] ρ2 with | some ρ' => evSs Φ wf b ρ' | none => none) = some fl' := eb
            cases est : setTg tg ds[i] ρ2 with
            | none => rw [est] at eb'; cases eb'
            | some ρ3 =>
              rw [est] at eb'
              cases tx with
              | Name x p =>
                match tg, ma23, est with
                | [j], m1, est =>
                  have := setTg_one est
                  subst this
                  exact (pg_one c m1).wp (hb c fc f (r3.setVal j rv) m3 eb' Dn' q')
              | Tuple ts kk p =>
                match tg, ma23, est with
                | j :: i' :: js, m1, est =>
                  obtain ⟨es, ed, hl, rfl⟩ := setTg_more est
                  have m' : mTgs Γ (j :: i' :: js) ts = true := m1
                  obtain ⟨h1, h2⟩ := assign_len _ _ X.env m'
                  rw [ed] at rv
                  obtain ⟨a, xs, rfl, hs, rl⟩ := RepR.tuple x3.ok (.of rv)
                  refine (pg_tup c.calm (pgs_names c _ _ m') h1 h2).wp ⟨a, xs, rfl, hs, by rw [rl.len, hl], ?_⟩
                  exact gNames_of _ _ _ (by rw [rl.len, hl]) (hb c fc f (r3.setVs rl) m3 eb' Dn' q')
              | _ => cases ma23
          have le3 : g1.le g3 := le2.trans x3.le
          split at e2
          · rename_i ρ' eb
            exact go2 _ eb _ fun σ' g' H' l' r' => ⟨by omega, g', ρ', r', le3.trans l', e2⟩
          · rename_i ρ' eb
            exact go2 _ eb _ fun σ' g' H' l' r' => ⟨by omega, g', ρ', r', le3.trans l', e2⟩
          · rename_i ρ' eb
            cases e2
            exact go2 _ eb _ fun σ' g' H' l' r' => q _ _ _ ((x1.le.trans le3).trans l') r'
          · rename_i d eb
            cases e2
            exact go2 _ eb _ (PostF.le (fl := .rt d) q (x1.le.trans le3))
          · cases e2
        · rw [List.drop_eq_nil_of_le (by omega)] at e2
          cases e2
          exact .inl ⟨en2 (by omega), q _ _ _ (x1.le.trans le2) r2⟩
      · cases ev
    | cons _ _ => cases m
  | _ => cases m
end
end MP

set_option maxHeartbeats 1000000
/-! MiniPy: blocks, defs, a table of defs. -/
namespace MP
open PySem PySem.Spec PyProof.Rows L2
section
variable {ob : Ob} {Φ : Nat → List D → Option D} {wf : Nat} {X : Cx} {Γ : Gam} {k : Nat} {g0 g : Gh} {H0 H : Hp} {σ : L2.St} {ρ : Rho}
theorem snds_ret {e : E} : SndS ob Φ wf (.ret e) := by
  refine fun {X Γ k st g0 g H0 H σ ρ fl} c fc f r m ev Dn q => ?_
  simp only [evS] at ev
  split at ev
  · rename_i d ed
    cases ev
    obtain ⟨ed, np⟩ := pure_some ed
    cases st with
    | Return o pos =>
      cases o with
      | some v =>
        refine (ps_ret pe_wp).wp ((sndE ob Φ e).1 (r.here c f) (show mE Γ e v = true by cases e <;> exact m) ed _ fun v' g' H' x' r' => ?_)
        exact q _ _ _ (r.x.trans x') (r'.pure np)
      | none =>
        cases e with
        | cnon =>
          cases (show some D.non = some d from ed)
          exact PS.wp ps_retN (q _ _ _ r.x .non)
        | _ => cases m
    | _ => cases e <;> cases m
  · cases ev
theorem snds_brk : SndS ob Φ wf .brk := by
  refine fun {X Γ k st g0 g H0 H σ ρ fl} c fc f r m ev Dn q => ?_
  cases (show some (Fl.bk ρ) = some fl from ev)
  cases st with
  | Break p => exact PS.wp ps_break (q _ _ _ (.refl _) r)
  | _ => cases m
theorem snds_cont : SndS ob Φ wf .cont := by
  refine fun {X Γ k st g0 g H0 H σ ρ fl} c fc f r m ev Dn q => ?_
  cases (show some (Fl.ct ρ) = some fl from ev)
  cases st with
  | Continue p => exact PS.wp ps_continue (q _ _ _ (.refl _) r)
  | _ => cases m
theorem snds_pass : SndS ob Φ wf .pass := by
  refine fun {X Γ k st g0 g H0 H σ ρ fl} c fc f r m ev Dn q => ?_
  cases (show some (Fl.nx ρ) = some fl from ev)
  cases st with
  | Pass p => exact PS.wp ps_pass (q _ _ _ (.refl _) r)
  | _ => cases m
theorem snds_bad : SndS ob Φ wf .bad := by
  refine fun {X Γ k st g0 g H0 H σ ρ fl} c fc f r m ev Dn q => ?_
  cases (show none = some fl from ev)
theorem sndss_nil : SndSs ob Φ wf .nil := by
  refine fun {X Γ k sts g0 g H0 H σ ρ fl} c fc f r m ev Dn q => ?_
  cases (show some (Fl.nx ρ) = some fl from ev)
  cases sts with
  | nil => exact PSs.wp pss_nil (q _ _ _ (.refl _) r)
  | cons _ _ => cases m
theorem sndss_cons {s : S} {ss : Ss} (hs : SndS ob Φ wf s) (hss : SndSs ob Φ wf ss) : SndSs ob Φ wf (.cons s ss) := by
  refine fun {X Γ k sts g0 g H0 H σ ρ fl} c fc f r m ev Dn q => ?_
  by_cases hz : ∃ i, s = .frz i
  · obtain ⟨i, rfl⟩ := hz
    have m' : mSs Γ ss sts = true := by cases sts <;> exact m
    simp only [evSs, evS] at ev
    cases e : ρ[i]? with
    | none => rw [e] at ev; cases ev
    | some sv =>
      rw [e] at ev
      cases sv with
      | mls ds =>
        obtain ⟨g', le, r'⟩ := r.frz e
        exact hss c fc f r' m' ev Dn (q.le le)
      | non => cases ev
      | val d => cases ev
  · have txt : ∃ st rest, sts = st :: rest ∧ mS Γ s st = true ∧ mSs Γ ss rest = true := by
      cases sts with
      | nil => cases s <;> first | cases m | exact absurd ⟨_, rfl⟩ hz
      | cons st rest =>
        have m' : (mS Γ s st && mSs Γ ss rest) = true := by cases s <;> first | exact m | exact absurd ⟨_, rfl⟩ hz
        obtain ⟨m1, m2⟩ := and2 m'
        exact ⟨st, rest, rfl, m1, m2⟩
    obtain ⟨st, rest, rfl, m1, m2⟩ := txt
    simp only [evSs] at ev
    refine (pss_cons ps_wp pss_wp).wp ?_
    cases e : evS Φ wf s ρ with
    | none => rw [e] at ev; cases ev
    | some fl1 =>
      rw [e] at ev
      refine hs c fc f r m1 e _ ?_
      cases fl1 with
      | nx ρ' => exact fun σ' g' H' le r' => hss c fc f r' m2 ev Dn (q.le le)
      | bk ρ' => cases ev; exact q
      | ct ρ' => cases ev; exact q
      | rt d => cases ev; exact q
end
section
variable (ob : Ob) (Φ : Nat → List D → Option D) (wf : Nat)
theorem snds_frz {i : Nat} : SndS ob Φ wf (.frz i) := by
  refine fun {X Γ k st g0 g H0 H σ ρ fl} c fc f r m ev Dn q => ?_
  cases st <;> cases m
mutual
theorem sndS : (s : S) → SndS ob Φ wf s
  | .set i e => snds_set
  | .setM i e => snds_setM
  | .unp is e => snds_unp
  | .par i j a b => snds_par
  | .aug i op e => snds_aug
  | .app i e => snds_app
  | .setIx i j e => snds_setIx
  | .ins i j e => snds_ins
  | .popTo k i j => snds_popTo
  | .popE i => snds_popE
  | .ifS t a b => snds_if (sndSs a) (sndSs b)
  | .forS tg it b => snds_for (sndSs b)
  | .whileS t b => snds_while (sndSs b)
  | .ret e => snds_ret
  | .brk => snds_brk
  | .cont => snds_cont
  | .pass => snds_pass
  | .frz i => snds_frz ob Φ wf
  | .bad => snds_bad
theorem sndSs : (s : Ss) → SndSs ob Φ wf s
  | .nil => sndss_nil
  | .cons s ss => sndss_cons (sndS s) (sndSs ss)
end
end
/-! ### defs -/
theorem start_slots {K : PySem.W.Frag} {g : Gh} {H : Hp} {N : List Str} {fd : Fd} {vs : List V} {ds : List D} (r : RepL K g vs ds) (hl : ds.length = fd.np) (hn : N.length = fd.ns) : Slots K g H (L2.start N vs) (start0 fd ds) := by
  have e := r.len
  refine ⟨?_, fun i sv q => ?_⟩
  · unfold L2.start start0
    rw [List.length_append, List.length_append, List.length_map, List.length_map, List.length_replicate, List.length_replicate]
    omega
  · unfold start0 at q
    by_cases hi : i < ds.length
    · rw [List.getElem?_append_left (by simpa using hi), List.getElem?_map, List.getElem?_eq_getElem hi] at q
      cases q
      obtain ⟨v, hv, rv⟩ := r.get (List.getElem?_eq_getElem hi)
      refine ⟨v, ?_, rv⟩
      unfold L2.start
      rw [List.getElem?_append_left (by rw [List.length_map]; omega), List.getElem?_map, hv]
      rfl
    · rw [List.getElem?_append_right (by simpa using hi), List.getElem?_replicate] at q
      split at q
      · cases q; trivial
      · cases q
theorem start_no {fd : Fd} {ds es : List D} {i : Nat} (q : (start0 fd ds)[i]? = some (.mls es)) : False := by
  unfold start0 at q
  by_cases hi : i < ds.length
  · rw [List.getElem?_append_left (by simpa using hi), List.getElem?_map, List.getElem?_eq_getElem hi] at q
    cases q
  · rw [List.getElem?_append_right (by simpa using hi), List.getElem?_replicate] at q
    split at q <;> cases q
theorem spF_len {ob : Ob} {K : PySem.W.Frag} {φ : List D → Option D} {n : Nat} (h : ∀ ds d, φ ds = some d → ds.length = n) {vs : List V} {H : Hp} {Q : VK} {E : XK} (s : spF ob K φ vs H Q E) : vs.length = n := by
  obtain ⟨g, ds, d, _, r, e, _⟩ := s
  rw [r.len]
  exact h ds d e
theorem fn_ok {ob : Ob} {Φ : Nat → List D → Option D} {wf : Nat} {P : Program} {w : World} {K : PySem.W.Frag} {mg : Str → Option Value} {base : Heap} {x qual : Str} {st : Stmt} {dvs : List V} {kws : List (Str × V)} {f : Addr} {fdt : FuncData} {N ps : List Str} {k : Nat} {fd : Fd} {fname : Nat → Option Str} {dfl : Nat → List (List Int)}
    (F : FunD K x qual (defArgs st) (defBody st) (defScope st) dvs kws f fdt) (S : FnScope N ps (defScope st)) (hn : N.length = fd.ns) (hp : ps.length = fd.np) (m : mSs ⟨N, defScope st, none, fname, dfl⟩ fd.body (defBody st) = true)
    (fns : ∀ f x, fname f = some x → ∃ (a : Addr) (fd : FuncData) (ps : List Str), mg x = some (.ref a) ∧ PySem.W.keepIn K (.ref a) = true ∧ FnOk P w K mg base CX0 k a fd ps (spF ob K (Φ f)) ∧ ∀ dv ∈ dfl f, ∃ us, Vals (dv.map V.int) us ∧ Binds K fd ps us)
    (bl : ∀ x ∈ ([("len" : Str), "abs", "int", "list", "tuple", "isinstance", "range", "bool", "str"] : List Str), mg x = none) :
    FnOk P w K mg base CX0 (k + 1) f fdt ps (spF ob K (bodyD Φ wf fd)) := by
  have hlen : ∀ ds d, bodyD Φ wf fd ds = some d → ds.length = fd.np := fun ds d e => by
    unfold bodyD at e
    split at e
    · rename_i h; exact of_decide_eq_true h
    · cases e
  refine F.ok S (fun vs H Q E s => by rw [hp]; exact spF_len hlen s) fun cdv A outer s H vs Q E hr hsp => ?_
  refine ⟨_, PSs.nox pss_wp, ?_⟩
  obtain ⟨g, ds, d, wo, r, e, q⟩ := hsp
  have hl := hlen ds d e
  let X : Cx := (cxOf CX0 P w K mg base N qual (defScope st) f cdv A outer s H E).nox
  have c : Ctx X ⟨N, defScope st, none, fname, dfl⟩ := ⟨rfl, rfl, fun _ => rfl, S.nd, rfl, rfl, S.kind⟩
  have fs : Fns ob Φ X ⟨N, defScope st, none, fname, dfl⟩ k := ⟨hr, fns, bl⟩
  have r0 : SR ob K g H g H (L2.start N vs) (start0 fd ds) := ⟨Ext.refl wo, start_slots r hl hn, fun i es a z => (start_no z).elim, fun i j es es' a z => (start_no z).elim⟩
  unfold bodyD at e
  rw [if_pos (decide_eq_true hl)] at e
  split at e
  · rename_i d' ed
    cases e
    exact sndSs ob Φ wf fd.body c rfl fs r0 m ed _ fun v g' H' x' r' => q v g' H' x' r'
  · rename_i ρ' ed
    cases e
    exact sndSs ob Φ wf fd.body c rfl fs r0 m ed _ fun σ' g' H' le r' => q _ g' H' r'.x .non
  · cases e
/-! ### a table of defs -/
structure Ent where
  x : Str
  st : Stmt
  N : List Str
  ps : List Str
  fd : Fd
  dfl : List (List Int)
def nameOf (es : List Ent) (f : Nat) : Option Str := (es[f]?).map (·.x)
def dflOf (es : List Ent) (f : Nat) : List (List Int) := match es[f]? with | some e => e.dfl | none => []
def fnScopeB (N P : List Str) (sc : Scope) : Bool :=
  decide (sc.kind = .function) && decide (sc.isCoroutine = false) && decide (sc.isGenerator = false) && decide N.Nodup && decide (N.take P.length = P) &&
    P.all (fun x => decide (sc.names.lookup x = some .local) || decide (sc.names.lookup x = some .cell)) && sc.names.all (fun y => decide (y.2 ≠ .free))
theorem fnScope_of {N P : List Str} {sc : Scope} (h : fnScopeB N P sc = true) : FnScope N P sc := by
  unfold fnScopeB at h
  simp only [Bool.and_eq_true, decide_eq_true_eq, List.all_eq_true, Bool.or_eq_true] at h
  obtain ⟨⟨⟨⟨⟨⟨h1, h2⟩, h3⟩, h4⟩, h5⟩, h6⟩, h7⟩ := h
  exact ⟨h1, h2, h3, h4, h5, h6, h7⟩
def chkEnt (es : List Ent) (e : Ent) : Bool := fnScopeB e.N e.ps (defScope e.st) && decide (e.N.length = e.fd.ns) && decide (e.ps.length = e.fd.np) && mSs ⟨e.N, defScope e.st, none, nameOf es, dflOf es⟩ e.fd.body (defBody e.st)
/-- what the head knows of a def -/
def EntOk (K : PySem.W.Frag) (mg : Str → Option Value) (e : Ent) : Prop := ∃ (qual : Str) (dvs : List V) (kws : List (Str × V)) (f : Addr) (fdt : FuncData), FunD K e.x qual (defArgs e.st) (defBody e.st) (defScope e.st) dvs kws f fdt ∧ mg e.x = some (.ref f) ∧
  (∀ dv ∈ e.dfl, ∃ us, Vals (dv.map V.int) us ∧ Binds K fdt e.ps us) ∧ (e.x = "law" → ∀ (s : Shared) (u : Value), e.ps.length = 1 → BindsTo s fdt ⟨[u], []⟩ (e.ps.zip [u]))
theorem tab_fn {ob : Ob} {wf : Nat} {P : Program} {w : World} {K : PySem.W.Frag} {mg : Str → Option Value} {es : List Ent} (hc : es.all (chkEnt es) = true) (he : ∀ e ∈ es, EntOk K mg e)
    (bl : ∀ x ∈ ([("len" : Str), "abs", "int", "list", "tuple", "isinstance", "range", "bool", "str"] : List Str), mg x = none) {base : Heap} :
    ∀ (n f : Nat) (e : Ent), es[f]? = some e → ∀ {qual : Str} {dvs : List V} {kws : List (Str × V)} {a : Addr} {fdt : FuncData}, FunD K e.x qual (defArgs e.st) (defBody e.st) (defScope e.st) dvs kws a fdt → FnOk P w K mg base CX0 n a fdt e.ps (spF ob K (run (es.map (·.fd)) wf n f)) := by
  intro n
  induction n with
  | zero =>
    intro f e hf qual dvs kws a fdt F
    refine ⟨fun vs H Q E s => ?_, fun A outer s H args us vs Q E _ _ _ _ s' => ?_⟩
    · obtain ⟨_, _, _, _, _, z, _⟩ := s
      cases z
    · obtain ⟨_, _, _, _, _, z, _⟩ := s'
      cases z
  | succ n ih =>
    intro f e hf qual dvs kws a fdt F
    have hmem := List.mem_of_getElem? hf
    have hce := List.all_eq_true.mp hc e hmem
    unfold chkEnt at hce
    obtain ⟨hce, h4⟩ := and2 hce
    obtain ⟨hce, h3⟩ := and2 hce
    obtain ⟨h1, h2⟩ := and2 hce
    have ht : (es.map (·.fd))[f]? = some e.fd := by rw [List.getElem?_map, hf]; rfl
    rw [run_eq ht]
    refine fn_ok F (fnScope_of h1) (of_decide_eq_true h2) (of_decide_eq_true h3) h4 (fun f' x' hx => ?_) bl
    unfold nameOf at hx
    cases q : es[f']? with
    | none => rw [q] at hx; cases hx
    | some e' =>
      rw [q] at hx
      cases hx
      obtain ⟨qual', dvs', kws', a', fdt', F', hm', hb', _⟩ := he e' (List.mem_of_getElem? q)
      refine ⟨a', fdt', e'.ps, hm', F'.kp, ih f' e' q F', fun dv hdv => hb' dv ?_⟩
      unfold dflOf at hdv
      rw [q] at hdv
      exact hdv
end MP

/-! MiniPy: what a head must tell of a def; the end. -/
namespace MP
open PySem PySem.Spec PyProof.Rows L2
theorem ent_mk {w : World} {K : PySem.W.Frag} {h : Heap} {mg : Str → Option Value} {e : Ent} {f : Addr} {od an : Option Addr} {sl : Array (Option Value)} {oc kV dc pm cd ct : Value} (X : K.In h) (G : h.Ns mainGlobals mg)
    (a : PySem.W.nsIn K mainGlobals e.x = some (some (.ref f))) (l : K.lookup f = some ⟨oc, od, .func (PySem.W.fnOf e.x e.x (defArgs e.st) (defBody e.st) (defScope e.st) .none kV dc pm an cd ct), sl⟩)
    (c : PySem.W.codeIn K cd e.x = true) (k : PySem.W.keepIn K (.ref f) = true) (hd : e.dfl = [[]])
    (hb : ∀ (kV doc pm : Value) (an : Option Addr) (cdv ct : Value) (us : List Value), us.length = e.ps.length → bindArgs (PySem.W.fnOf e.x e.x (defArgs e.st) (defBody e.st) (defScope e.st) .none kV doc pm an cdv ct) ⟨us, []⟩ = pure (e.ps.zip us)) : EntOk K mg e := by
  have F : FunD K e.x e.x (defArgs e.st) (defBody e.st) (defScope e.st) [] [] f (PySem.W.fnOf e.x e.x (defArgs e.st) (defBody e.st) (defScope e.st) .none kV dc pm an cd ct) :=
    ⟨⟨oc, od, .none, kV, dc, pm, an, cd, ct, sl, rfl, l, c, .inl ⟨rfl, rfl⟩, .inl rfl⟩, k⟩
  refine ⟨e.x, [], [], f, _, F, PySem.W.mg_of X G a, fun dv hdv => ?_, fun _ s u h1 => .of_eq (hb _ _ _ _ _ _ [u] h1.symm)⟩
  rw [hd] at hdv
  simp only [List.mem_singleton] at hdv
  subst hdv
  exact ⟨[], .nil, F.bindsN hb⟩
/-- a def with one default (an int): all parameters given, or the last one lacking -/
theorem ent_mk1 {w : World} {K : PySem.W.Frag} {h : Heap} {mg : Str → Option Value} {e : Ent} {f T : Addr} {od an : Option Addr} {sl : Array (Option Value)} {oc kV dc pm cd ct : Value} {i : Int} {o : Obj} {t : Tok} {n : Nat} (X : K.In h) (G : h.Ns mainGlobals mg)
    (a : PySem.W.nsIn K mainGlobals e.x = some (some (.ref f))) (l : K.lookup f = some ⟨oc, od, .func (PySem.W.fnOf e.x e.x (defArgs e.st) (defBody e.st) (defScope e.st) (.ref T) kV dc pm an cd ct), sl⟩)
    (c : PySem.W.codeIn K cd e.x = true) (k : PySem.W.keepIn K (.ref f) = true) (lT : K.lookup T = some o) (oT : o.data = .seq #[.int i t] n) {m : Nat} (hm : e.ps.length = m + 1) (hd : ∀ dv ∈ e.dfl, dv = [] ∨ dv = [i]) (hx : e.x ≠ "law")
    (hb0 : ∀ (T : Addr) (kV doc pm : Value) (an : Option Addr) (cdv ct : Value) (us its : List Value), us.length = m + 1 → its.length = 1 →
      ∃ k, bindArgs (PySem.W.fnOf e.x e.x (defArgs e.st) (defBody e.st) (defScope e.st) (.ref T) kV doc pm an cdv ct) ⟨us, []⟩ = seqItems? (.ref T) >>= k ∧ k (some its.toArray) = pure (e.ps.zip (us ++ its.drop 1)))
    (hb1 : ∀ (T : Addr) (kV doc pm : Value) (an : Option Addr) (cdv ct : Value) (us its : List Value), us.length = m → its.length = 1 →
      ∃ k, bindArgs (PySem.W.fnOf e.x e.x (defArgs e.st) (defBody e.st) (defScope e.st) (.ref T) kV doc pm an cdv ct) ⟨us, []⟩ = seqItems? (.ref T) >>= k ∧ k (some its.toArray) = pure (e.ps.zip (us ++ its.drop 0))) : EntOk K mg e := by
  have F : FunD K e.x e.x (defArgs e.st) (defBody e.st) (defScope e.st) [.int i] [] f (PySem.W.fnOf e.x e.x (defArgs e.st) (defBody e.st) (defScope e.st) (.ref T) kV dc pm an cd ct) :=
    ⟨⟨oc, od, .ref T, kV, dc, pm, an, cd, ct, sl, rfl, l, c, .inr ⟨by simp, T, o, [.int i t], n, rfl, lT, oT, .cons ⟨t, rfl⟩ .nil⟩, .inl rfl⟩, k⟩
  refine ⟨e.x, [.int i], [], f, _, F, PySem.W.mg_of X G a, fun dv hdv => ?_, fun z => absurd z hx⟩
  rcases hd dv hdv with rfl | rfl
  · obtain ⟨ds, r, b⟩ := F.binds1 (m + 1) 1 (by simp) (by rw [hm]; rfl) hb0
    exact ⟨ds, r, b⟩
  · obtain ⟨ds, r, b⟩ := F.binds1 m 0 (by simp) (by rw [hm]; rfl) hb1
    exact ⟨ds, r, b⟩
/-- no objects with a cache -/
def ob0 : Ob := ⟨fun _ _ _ => False, fun _ h => h⟩
/-- the law's promise -/
def spLaw (K : PySem.W.Frag) : Sp := fun vs H Q _ => ∃ (a : Addr) (ns : List Int), vs = [.ref a] ∧ SqL K H a (ns.map V.int) ∧ ns.length ≤ 63 ∧ ∀ H', Q (.bl true) H'
theorem law_sp {K : PySem.W.Frag} {φ : List D → Option D} (h : ∀ ns : List Int, ns.length ≤ 63 → φ [.lst (ns.map .int)] = some (.bl true)) : ∀ vs H Q E, spLaw K vs H Q E → spF ob0 K φ vs H Q E := by
  intro vs H Q E s
  obtain ⟨a, ns, rfl, hr, hl, q⟩ := s
  refine ⟨⟨H, fun _ => none⟩, _, _, ⟨fun a o e => e, fun a c e => (by cases e), fun a o e => rfl⟩, .cons (.lst hr (RepL.ints ns)) .nil, h ns hl, fun v g' H' x r => ?_⟩
  cases r
  exact q H'
end MP

/-! Fractions of a program as rationals: the defs common, fraction, plus .. and the law's own. -/
namespace MP
open PySem L2
/-- one turn of a for -/
def stepF (Φ : Nat → List D → Option D) (wf : Nat) (tg : List Nat) (body : Ss) (d : D) (ρ : Rho) : Option Fl := match setTg tg d ρ with | some ρ' => evSs Φ wf body ρ' | none => none
theorem evS_forF {Φ : Nat → List D → Option D} {wf : Nat} {ρ : Rho} (tg : List Nat) (it : It) (body : Ss) : evS Φ wf (.forS tg it body) ρ = (match evItF Φ it ρ with
    | some ds => forM (stepF Φ wf tg body) ds ρ
    | none => none) := id rfl
theorem forM_cons (f : D → Rho → Option Fl) (d : D) (ds : List D) (ρ : Rho) : forM f (d :: ds) ρ = (match f d ρ with
    | some (.nx ρ') => forM f ds ρ'
    | some (.ct ρ') => forM f ds ρ'
    | some (.bk ρ') => some (.nx ρ')
    | some (.rt d) => some (.rt d)
    | none => none) := id rfl
@[simp] theorem forM_nil (f : D → Rho → Option Fl) (ρ : Rho) : forM f [] ρ = some (.nx ρ) := id rfl
def fr (q : Rat) : D := .tup [.int q.num, .int (q.den : Int)]
def Bi (k : Nat) (i : Int) : Prop := i.natAbs < 2 ^ k
structure Sz (k : Nat) (q : Rat) : Prop where
  n : Bi k q.num
  d : q.den < 2 ^ k
theorem Bi.mono {j k : Nat} {i : Int} (h : Bi j i) (l : j ≤ k) : Bi k i := Nat.lt_of_lt_of_le h (Nat.pow_le_pow_right (by decide) l)
theorem Sz.mono {j k : Nat} {q : Rat} (h : Sz j q) (l : j ≤ k) : Sz k q := ⟨h.n.mono l, Nat.lt_of_lt_of_le h.d (Nat.pow_le_pow_right (by decide) l)⟩
theorem Sz.d' {k : Nat} {q : Rat} (h : Sz k q) : Bi k (q.den : Int) := h.d
theorem Bi.log {k : Nat} {i : Int} (h : Bi k i) (hk : 0 < k) : i.natAbs.log2 < k := PySem.Flt.log2_lt_of hk h
theorem Bi.mul {j k : Nat} {a b : Int} (h : Bi j a) (h' : Bi k b) : Bi (j + k) (a * b) := by
  unfold Bi
  rw [Int.natAbs_mul, Nat.pow_add]
  exact Nat.mul_lt_mul'' h h'
theorem Bi.add {k : Nat} {a b : Int} (h : Bi k a) (h' : Bi k b) : Bi (k + 1) (a + b) := by
  unfold Bi at *
  rw [Nat.pow_succ]
  omega
theorem Bi.sub {k : Nat} {a b : Int} (h : Bi k a) (h' : Bi k b) : Bi (k + 1) (a - b) := by
  unfold Bi at *
  rw [Nat.pow_succ]
  omega
theorem mulOk_of {j k : Nat} {a b : Int} (h : Bi j a) (h' : Bi k b) (l : j + k ≤ 900000) : mulOk a b = true := by
  have h1 := (h.mono (Nat.le_succ j)).log (Nat.succ_pos j)
  have h2 := (h'.mono (Nat.le_succ k)).log (Nat.succ_pos k)
  unfold mulOk
  exact decide_eq_true (by omega)
/-- the pair that fraction hands back -/
theorem frac_pair {n d : Int} (hd : d ≠ 0) : n.fdiv (if d < 0 then -(Nat.gcd n.natAbs d.natAbs : Int) else (Nat.gcd n.natAbs d.natAbs : Int)) = (Rat.divInt n d).num ∧
    d.fdiv (if d < 0 then -(Nat.gcd n.natAbs d.natAbs : Int) else (Nat.gcd n.natAbs d.natAbs : Int)) = ((Rat.divInt n d).den : Int) := by
  have hg : Int.gcd d n = Nat.gcd n.natAbs d.natAbs := by rw [Int.gcd, Nat.gcd_comm]
  rw [Rat.num_divInt, Rat.den_divInt, if_neg hd, hg]
  generalize hG : Nat.gcd n.natAbs d.natAbs = G
  by_cases hneg : d < 0
  · rw [if_pos hneg, Int.sign_eq_neg_one_of_neg hneg]
    constructor
    · rw [← Int.neg_fdiv_neg, Int.neg_neg, Int.fdiv_eq_ediv_of_nonneg _ (by omega), Int.neg_one_mul]
    · rw [← Int.neg_fdiv_neg, Int.neg_neg, Int.fdiv_eq_ediv_of_nonneg _ (by omega)]
      have : -d = (d.natAbs : Int) := by omega
      rw [this]
      rfl
  · have hp : 0 < d := by omega
    rw [if_neg hneg, Int.sign_eq_one_of_pos hp]
    constructor
    · rw [Int.fdiv_eq_ediv_of_nonneg _ (by omega), Int.one_mul]
    · rw [Int.fdiv_eq_ediv_of_nonneg _ (by omega)]
      have : d = (d.natAbs : Int) := by omega
      rw [this]
      rfl
theorem add_divInt (a b : Rat) : Rat.divInt (a.num * b.den + b.num * a.den) (a.den * b.den) = a + b := by
  rw [Rat.add_def', ← Rat.divInt_ofNat]; rfl
theorem sub_divInt (a b : Rat) : Rat.divInt (a.num * b.den - b.num * a.den) (a.den * b.den) = a - b := by
  rw [Rat.sub_def', ← Rat.divInt_ofNat]; rfl
theorem mul_divInt (a b : Rat) : Rat.divInt (a.num * b.num) (a.den * b.den) = a * b := by
  rw [Rat.mul_def', ← Rat.divInt_ofNat]; rfl
theorem div_divInt (a b : Rat) : Rat.divInt (a.num * b.den) (a.den * b.num) = a / b := by
  rw [Rat.div_def, Rat.inv_def, ← Rat.num_divInt_den a, Rat.divInt_mul_divInt, Rat.num_divInt_den]
theorem den_ne (a : Rat) : (a.den : Int) ≠ 0 := by have := a.den_nz; omega
theorem icast_ne {z : Int} (h : z ≠ 0) : (z : Rat) ≠ 0 := fun e => h (by simpa using e)
theorem divInt_mul {n d : Int} (h : d ≠ 0) : Rat.divInt n d * (d : Rat) = n := by
  rw [Rat.divInt_eq_div, Rat.div_mul_cancel (icast_ne h)]
/-! ### sizes -/
/-- a fraction with these parts above and below, not in lowest terms, has no greater ones -/
theorem Sz.of {k : Nat} {q : Rat} {n d : Int} (hd : d ≠ 0) (e : q * d = n) (hn : Bi k n) (hdd : Bi k d) : Sz k q := by
  have eq : q = Rat.divInt n d := by
    rw [Rat.divInt_eq_div, ← e]
    rw [Rat.mul_div_cancel (icast_ne hd)]
  constructor
  · rw [eq, Rat.num_divInt]
    refine Nat.lt_of_le_of_lt ?_ hn
    rw [Int.natAbs_ediv_of_dvd]
    · refine Nat.le_trans (Nat.div_le_self _ _) ?_
      rw [Int.natAbs_mul]
      have : d.sign.natAbs ≤ 1 := by rcases Int.sign_trichotomy d with h | h | h <;> rw [h] <;> decide
      calc d.sign.natAbs * n.natAbs ≤ 1 * n.natAbs := Nat.mul_le_mul_right _ this
        _ = n.natAbs := Nat.one_mul _
    · exact Int.dvd_mul_of_dvd_right (Int.gcd_dvd_right ..)
  · rw [eq, Rat.den_divInt, if_neg hd]
    exact Nat.lt_of_le_of_lt (Nat.div_le_self _ _) hdd
theorem Sz.add {j k : Nat} {a b : Rat} (h : Sz j a) (h' : Sz k b) : Sz (j + k + 1) (a + b) := by
  refine Sz.of (n := a.num * b.den + b.num * a.den) (d := a.den * b.den) (Int.mul_ne_zero (den_ne a) (den_ne b)) ?_ ?_ ?_
  · rw [← add_divInt]
    exact divInt_mul (Int.mul_ne_zero (den_ne a) (den_ne b))
  · exact (h.n.mul h'.d').add (by rw [Nat.add_comm]; exact h'.n.mul h.d')
  · exact (h.d'.mul h'.d').mono (by omega)
theorem Sz.sub {j k : Nat} {a b : Rat} (h : Sz j a) (h' : Sz k b) : Sz (j + k + 1) (a - b) := by
  refine Sz.of (n := a.num * b.den - b.num * a.den) (d := a.den * b.den) (Int.mul_ne_zero (den_ne a) (den_ne b)) ?_ ?_ ?_
  · rw [← sub_divInt]
    exact divInt_mul (Int.mul_ne_zero (den_ne a) (den_ne b))
  · exact (h.n.mul h'.d').sub (by rw [Nat.add_comm]; exact h'.n.mul h.d')
  · exact (h.d'.mul h'.d').mono (by omega)
theorem Sz.mul {j k : Nat} {a b : Rat} (h : Sz j a) (h' : Sz k b) : Sz (j + k) (a * b) := by
  refine Sz.of (n := a.num * b.num) (d := a.den * b.den) (Int.mul_ne_zero (den_ne a) (den_ne b)) ?_ (h.n.mul h'.n) (h.d'.mul h'.d')
  exact (congrArg (· * _) (mul_divInt a b).symm).trans (divInt_mul (Int.mul_ne_zero (den_ne a) (den_ne b)))
theorem num_ne {b : Rat} (hb : b ≠ 0) : b.num ≠ 0 := fun z => hb (Rat.num_eq_zero.mp z)
theorem Sz.div {j k : Nat} {a b : Rat} (h : Sz j a) (h' : Sz k b) (hb : b ≠ 0) : Sz (j + k) (a / b) := by
  refine Sz.of (n := a.num * b.den) (d := a.den * b.num) (Int.mul_ne_zero (den_ne a) (num_ne hb)) ?_ (h.n.mul h'.d') (h.d'.mul h'.n)
  rw [← div_divInt]
  exact divInt_mul (Int.mul_ne_zero (den_ne a) (num_ne hb))
theorem Sz.neg {k : Nat} {a : Rat} (h : Sz k a) : Sz k (-a) := ⟨by show (-a.num).natAbs < _; rw [Int.natAbs_neg]; exact h.n, h.d⟩
/-! ### Euclid -/
theorem mod_half {b r : Nat} (h : r < b) (hr : 0 < r) : 2 * (b % r) < b := by
  have h1 : b % r < r := Nat.mod_lt _ hr
  have h2 : b % r + r ≤ b := by
    have := Nat.div_add_mod b r
    have h3 : 1 ≤ b / r := (Nat.one_le_div_iff hr).mpr (Nat.le_of_lt h)
    have h4 : r * 1 ≤ r * (b / r) := Nat.mul_le_mul_left _ h3
    omega
  omega
theorem fmod_nat (a b : Nat) : (a : Int).fmod (b : Int) = ((a % b : Nat) : Int) := by
  rw [Int.fmod_eq_emod_of_nonneg _ (by omega)]; rfl
def commonFd : Fd := ⟨2, 2, (.cons (.set 0 (.prim .abs (.cons (.slot 0) .nil))) (.cons (.set 1 (.prim .abs (.cons (.slot 1) .nil))) (.cons (.whileS (.cmp .gt (.slot 1) (.cint 0)) (.cons (.par 0 1 (.slot 1) (.bin .mod (.slot 0) (.slot 1))) .nil)) (.cons (.ret (.slot 0)) .nil))))⟩
section
variable {tab : List Fd} {wf : Nat}
theorem gcd_turn (Φ : Nat → List D → Option D) (a b : Nat) : evT Φ (.cmp .gt (.slot 1) (.cint 0)) [.val (.int a), .val (.int b)] = some (decide ((0 : Int) < b)) ∧
    (0 < b → evSs Φ wf (.cons (.par 0 1 (.slot 1) (.bin .mod (.slot 0) (.slot 1))) .nil) [.val (.int a), .val (.int b)] = some (.nx [.val (.int b), .val (.int ((a % b : Nat) : Int))])) := by
  refine ⟨by simp, fun hb => ?_⟩
  have : ((b : Int) ≠ 0) := by omega
  simp [bin_mod this, fmod_nat]
theorem gcd_loop (Φ : Nat → List D → Option D) : ∀ (j a b m : Nat), b < 2 ^ j → 2 * j + 1 ≤ m →
    whileM (evT Φ (.cmp .gt (.slot 1) (.cint 0))) (evSs Φ wf (.cons (.par 0 1 (.slot 1) (.bin .mod (.slot 0) (.slot 1))) .nil)) m [.val (.int a), .val (.int b)] = some (.nx [.val (.int (Nat.gcd a b : Nat)), .val (.int 0)]) := by
  have stop : ∀ (a m : Nat), 1 ≤ m → whileM (evT Φ (.cmp .gt (.slot 1) (.cint 0))) (evSs Φ wf (.cons (.par 0 1 (.slot 1) (.bin .mod (.slot 0) (.slot 1))) .nil)) m [.val (.int a), .val (.int ((0 : Nat) : Int))] = some (.nx [.val (.int (Nat.gcd a 0 : Nat)), .val (.int 0)]) := by
    intro a m hm
    obtain ⟨m, rfl⟩ : ∃ k, m = k + 1 := ⟨m - 1, by omega⟩
    unfold whileM
    rw [(gcd_turn (wf := wf) Φ a 0).1]
    simp
  have one : ∀ (a b m : Nat), 0 < b → whileM (evT Φ (.cmp .gt (.slot 1) (.cint 0))) (evSs Φ wf (.cons (.par 0 1 (.slot 1) (.bin .mod (.slot 0) (.slot 1))) .nil)) (m + 1) [.val (.int a), .val (.int b)] =
      whileM (evT Φ (.cmp .gt (.slot 1) (.cint 0))) (evSs Φ wf (.cons (.par 0 1 (.slot 1) (.bin .mod (.slot 0) (.slot 1))) .nil)) m [.val (.int b), .val (.int ((a % b : Nat) : Int))] := by
    intro a b m hb
    conv => lhs; unfold whileM
    rw [(gcd_turn (wf := wf) Φ a b).1, (gcd_turn (wf := wf) Φ a b).2 hb, decide_eq_true (by omega)]
  intro j
  induction j with
  | zero =>
    intro a b m hb hm
    have : b = 0 := by simpa using hb
    subst this
    exact stop a m (by omega)
  | succ j ih =>
    intro a b m hb hm
    by_cases h0 : b = 0
    · subst h0; exact stop a m (by omega)
    · have hb0 : 0 < b := Nat.pos_of_ne_zero h0
      obtain ⟨m, rfl⟩ : ∃ k, m = k + 2 := ⟨m - 2, by omega⟩
      rw [one a b (m + 1) hb0]
      have hr : a % b < b := Nat.mod_lt _ hb0
      have e1 : Nat.gcd a b = Nat.gcd b (a % b) := by rw [Nat.gcd_comm a b, Nat.gcd_rec b a, Nat.gcd_comm]
      by_cases h1 : a % b = 0
      · rw [h1, stop b (m + 1) (by omega), e1, h1]
      · have hp : 0 < a % b := Nat.pos_of_ne_zero h1
        rw [one b (a % b) m hp, ih (a % b) (b % (a % b)) m (by have := mod_half hr hp; rw [Nat.pow_succ] at hb; omega) (by omega), e1]
        congr 6
        rw [Nat.gcd_comm b (a % b), Nat.gcd_rec (a % b) b, Nat.gcd_comm]
theorem abs_nat (i : Int) : (if i < 0 then -i else i) = (i.natAbs : Int) := by split <;> omega
theorem run_common {f n : Nat} (ht : tab[f]? = some commonFd) (hwf : 19000 ≤ wf) (hn : 1 ≤ n) {a b : Int} (hb : Bi 9000 b) : run tab wf n f [.int a, .int b] = some (.int (Nat.gcd a.natAbs b.natAbs : Nat)) := by
  obtain ⟨n, rfl⟩ : ∃ k, n = k + 1 := ⟨n - 1, by omega⟩
  rw [run_eq ht]
  have := gcd_loop (wf := wf) (run tab wf n) 9000 a.natAbs b.natAbs wf hb (by omega)
  simp [bodyD, commonFd, start0, evS_while, primD, abs_nat, this]
end
end MP

/-! runs of fraction, minus, times, over, plus and of the law's own. -/
namespace MP
open PySem L2
@[simp] theorem prim_abs (i : Int) : primD .abs [.int i] = some (.int (i.natAbs : Int)) := by show some (D.int (if i < 0 then -i else i)) = _; rw [abs_nat]
@[simp] theorem prim_lenL (xs : List D) : primD .len [.lst xs] = some (.int (xs.length : Int)) := id rfl
@[simp] theorem prim_lenT (xs : List D) : primD .len [.tup xs] = some (.int (xs.length : Int)) := id rfl
@[simp] theorem prim_lenO (xs : List D) : primD .len [.own xs] = some (.int (xs.length : Int)) := id rfl
@[simp] theorem prim_int (i : Int) : primD .int [.int i] = some (.int i) := id rfl
/-! the defs, by the index of what they call -/
def fractionFd (c : Nat) : Fd := ⟨2, 3, (.cons (.ifS (.cmp .eq (.slot 1) (.cint 0)) (.cons .bad .nil) .nil) (.cons (.set 2 (.call c (.cons (.slot 0) (.cons (.slot 1) .nil)) [])) (.cons (.ifS (.cmp .lt (.slot 1) (.cint 0)) (.cons (.set 2 (.neg (.slot 2))) .nil) .nil) (.cons (.ret (.tup (.cons (.bin .fdiv (.slot 0) (.slot 2)) (.cons (.bin .fdiv (.slot 1) (.slot 2)) .nil)))) .nil))))⟩
def minusFd (c : Nat) : Fd := ⟨2, 2, (.cons (.ret (.call c (.cons (.bin .sub (.bin .mul (.idx (.slot 0) (.cint 0)) (.idx (.slot 1) (.cint 1))) (.bin .mul (.idx (.slot 1) (.cint 0)) (.idx (.slot 0) (.cint 1)))) (.cons (.bin .mul (.idx (.slot 0) (.cint 1)) (.idx (.slot 1) (.cint 1))) .nil)) [])) .nil)⟩
def plusFd (c : Nat) : Fd := ⟨2, 2, (.cons (.ret (.call c (.cons (.bin .add (.bin .mul (.idx (.slot 0) (.cint 0)) (.idx (.slot 1) (.cint 1))) (.bin .mul (.idx (.slot 1) (.cint 0)) (.idx (.slot 0) (.cint 1)))) (.cons (.bin .mul (.idx (.slot 0) (.cint 1)) (.idx (.slot 1) (.cint 1))) .nil)) [])) .nil)⟩
def timesFd (c : Nat) : Fd := ⟨2, 2, (.cons (.ret (.call c (.cons (.bin .mul (.idx (.slot 0) (.cint 0)) (.idx (.slot 1) (.cint 0))) (.cons (.bin .mul (.idx (.slot 0) (.cint 1)) (.idx (.slot 1) (.cint 1))) .nil)) [])) .nil)⟩
def overFd (c : Nat) : Fd := ⟨2, 2, (.cons (.ret (.call c (.cons (.bin .mul (.idx (.slot 0) (.cint 0)) (.idx (.slot 1) (.cint 1))) (.cons (.bin .mul (.idx (.slot 0) (.cint 1)) (.idx (.slot 1) (.cint 0))) .nil)) [])) .nil)⟩
def lawFractionFd : Fd := ⟨2, 5, (.cons (.set 2 (.prim .abs (.cons (.slot 0) .nil))) (.cons (.set 3 (.prim .abs (.cons (.slot 1) .nil))) (.cons (.forS [4] (.rng1 (.cint 10000)) (.cons (.ifS (.cmp .eq (.slot 3) (.cint 0)) (.cons .brk .nil) .nil) (.cons (.par 2 3 (.slot 3) (.bin .mod (.slot 2) (.slot 3))) .nil))) (.cons (.ifS (.cmp .lt (.slot 1) (.cint 0)) (.cons (.set 2 (.neg (.slot 2))) .nil) .nil) (.cons (.ret (.tup (.cons (.bin .fdiv (.slot 0) (.slot 2)) (.cons (.bin .fdiv (.slot 1) (.slot 2)) .nil)))) .nil)))))⟩
/-- the def at f hands back the quotient, for parts up to k bits -/
def Makes (tab : List Fd) (wf k m f : Nat) : Prop := ∀ n, m ≤ n → ∀ a b : Int, b ≠ 0 → Bi k b → run tab wf n f [.int a, .int b] = some (fr (Rat.divInt a b))
section
variable {tab : List Fd} {wf : Nat}
theorem gcd_bits {a b : Int} {k : Nat} (h0 : b ≠ 0) (hb : Bi k b) : (Nat.gcd a.natAbs b.natAbs) < 2 ^ k ∧ 0 < Nat.gcd a.natAbs b.natAbs :=
  ⟨Nat.lt_of_le_of_lt (Nat.le_of_dvd (by omega) (Nat.gcd_dvd_right ..)) hb, Nat.gcd_pos_of_pos_right _ (by omega)⟩
theorem signed_ok {a b : Int} (h0 : b ≠ 0) (hb : Bi 9000 b) :
    (if b < 0 then -(Nat.gcd a.natAbs b.natAbs : Int) else (Nat.gcd a.natAbs b.natAbs : Int)) ≠ 0 ∧
    (if b < 0 then -(Nat.gcd a.natAbs b.natAbs : Int) else (Nat.gcd a.natAbs b.natAbs : Int)).natAbs.log2 < 9000 := by
  have h := gcd_bits (a := a) h0 hb
  have e : (if b < 0 then -(Nat.gcd a.natAbs b.natAbs : Int) else (Nat.gcd a.natAbs b.natAbs : Int)).natAbs = Nat.gcd a.natAbs b.natAbs := by split <;> omega
  refine ⟨fun z => ?_, ?_⟩
  · rw [z] at e; simp at e; omega
  · rw [e]; exact Bi.log (i := (Nat.gcd a.natAbs b.natAbs : Int)) h.1 (by decide)
theorem makes_fraction {f c : Nat} (ht : tab[f]? = some (fractionFd c)) (hc : tab[c]? = some commonFd) (hwf : 19000 ≤ wf) : Makes tab wf 9000 2 f := by
  intro n hn a b h0 hb
  obtain ⟨n, rfl⟩ : ∃ k, n = k + 1 := ⟨n - 1, by omega⟩
  rw [run_eq ht]
  have h1 := run_common (a := a) hc hwf (n := n) (by omega) hb
  have h2 := signed_ok (a := a) h0 hb
  have h3 := frac_pair (n := a) h0
  by_cases hneg : b < 0
  · rw [if_pos hneg] at h2 h3
    simp [bodyD, fractionFd, start0, h0, h1, hneg, bin_fdiv h2.1 h2.2, fr, h3.1, h3.2, line]
  · rw [if_neg hneg] at h2 h3
    simp [bodyD, fractionFd, start0, h0, h1, hneg, bin_fdiv h2.1 h2.2, fr, h3.1, h3.2, line]
/-- the law's own loop -/
theorem gcd_for (Φ : Nat → List D → Option D) (x y : D) : ∀ (j a b : Nat) (ds : List D) (c : SV), b < 2 ^ j → 2 * j + 1 ≤ ds.length →
    ∃ c', forM (stepF Φ wf [4] (.cons (.ifS (.cmp .eq (.slot 3) (.cint 0)) (.cons .brk .nil) .nil) (.cons (.par 2 3 (.slot 3) (.bin .mod (.slot 2) (.slot 3))) .nil))) ds
      [.val x, .val y, .val (.int a), .val (.int b), c] = some (.nx [.val x, .val y, .val (.int (Nat.gcd a b : Nat)), .val (.int 0), c']) := by
  have stop : ∀ (a : Nat) (ds : List D) (c : SV), 1 ≤ ds.length →
    ∃ c', forM (stepF Φ wf [4] (.cons (.ifS (.cmp .eq (.slot 3) (.cint 0)) (.cons .brk .nil) .nil) (.cons (.par 2 3 (.slot 3) (.bin .mod (.slot 2) (.slot 3))) .nil))) ds
      [.val x, .val y, .val (.int a), .val (.int ((0 : Nat) : Int)), c] = some (.nx [.val x, .val y, .val (.int (Nat.gcd a 0 : Nat)), .val (.int 0), c']) := by
    intro a ds c h
    obtain ⟨d, ds, rfl⟩ : ∃ d es, ds = d :: es := by cases ds with | nil => simp at h | cons d es => exact ⟨d, es, rfl⟩
    exact ⟨.val d, by simp [forM_cons, stepF]⟩
  have one : ∀ (a b : Nat) (d : D) (ds : List D) (c : SV), 0 < b →
    forM (stepF Φ wf [4] (.cons (.ifS (.cmp .eq (.slot 3) (.cint 0)) (.cons .brk .nil) .nil) (.cons (.par 2 3 (.slot 3) (.bin .mod (.slot 2) (.slot 3))) .nil))) (d :: ds)
      [.val x, .val y, .val (.int a), .val (.int b), c] =
    forM (stepF Φ wf [4] (.cons (.ifS (.cmp .eq (.slot 3) (.cint 0)) (.cons .brk .nil) .nil) (.cons (.par 2 3 (.slot 3) (.bin .mod (.slot 2) (.slot 3))) .nil))) ds
      [.val x, .val y, .val (.int b), .val (.int ((a % b : Nat) : Int)), .val d] := by
    intro a b d ds c hb
    have hb' : ((b : Int) ≠ 0) := by omega
    have hb2 : b ≠ 0 := by omega
    have : stepF Φ wf [4] (.cons (.ifS (.cmp .eq (.slot 3) (.cint 0)) (.cons .brk .nil) .nil) (.cons (.par 2 3 (.slot 3) (.bin .mod (.slot 2) (.slot 3))) .nil)) d [.val x, .val y, .val (.int a), .val (.int b), c] =
        some (.nx [.val x, .val y, .val (.int b), .val (.int ((a % b : Nat) : Int)), .val d]) := by
      simp [stepF, bin_mod hb', fmod_nat, hb2]
    rw [forM_cons, this]
  intro j
  induction j with
  | zero =>
    intro a b ds c hb hm
    have : b = 0 := by simpa using hb
    subst this
    exact stop a ds c (by omega)
  | succ j ih =>
    intro a b ds c hb hm
    by_cases h0 : b = 0
    · subst h0; exact stop a ds c (by omega)
    · have hb0 : 0 < b := Nat.pos_of_ne_zero h0
      obtain ⟨d1, d2, ds, rfl⟩ : ∃ d1 d2 es, ds = d1 :: d2 :: es := by
        cases ds with
        | nil => simp at hm
        | cons d1 es => cases es with
          | nil => simp at hm
          | cons d2 es => exact ⟨d1, d2, es, rfl⟩
      rw [one a b d1 _ c hb0]
      have hr : a % b < b := Nat.mod_lt _ hb0
      have e1 : Nat.gcd a b = Nat.gcd b (a % b) := by rw [Nat.gcd_comm a b, Nat.gcd_rec b a, Nat.gcd_comm]
      by_cases h1 : a % b = 0
      · rw [h1, e1, h1]; exact stop b _ _ (by simp)
      · have hp : 0 < a % b := Nat.pos_of_ne_zero h1
        rw [one b (a % b) d2 _ _ hp, e1, Nat.gcd_comm b (a % b), Nat.gcd_rec (a % b) b, Nat.gcd_comm]
        exact ih (a % b) (b % (a % b)) ds _ (by have := mod_half hr hp; rw [Nat.pow_succ] at hb; omega) (by simp at hm; omega)
theorem len_rng (lo hi : Int) : (rng lo hi).length = (hi - lo).toNat := by simp [rng]
theorem makes_lawFraction {f : Nat} (ht : tab[f]? = some lawFractionFd) : Makes tab wf 4900 1 f := by
  intro n hn a b h0 hb
  obtain ⟨n, rfl⟩ : ∃ k, n = k + 1 := ⟨n - 1, by omega⟩
  rw [run_eq ht]
  obtain ⟨c', h1⟩ := gcd_for (wf := wf) (run tab wf n) (.int a) (.int b) 4900 a.natAbs b.natAbs (rng 0 10000) .non hb (by rw [len_rng]; decide)
  have h2 := signed_ok (a := a) h0 (hb.mono (by decide))
  have h3 := frac_pair (n := a) h0
  have hk : okRng 10000 = true := by decide
  by_cases hneg : b < 0
  · rw [if_pos hneg] at h2 h3
    simp [bodyD, lawFractionFd, start0, evS_forF, hk, h0, h1, hneg, bin_fdiv h2.1 h2.2, fr, h3.1, h3.2, line]
  · rw [if_neg hneg] at h2 h3
    simp [bodyD, lawFractionFd, start0, evS_forF, hk, h0, h1, hneg, bin_fdiv h2.1 h2.2, fr, h3.1, h3.2, line]
/-- what two fractions make -/
def Op2 (tab : List Fd) (wf k m f : Nat) (op : Rat → Rat → Rat) : Prop := ∀ n, m ≤ n → ∀ a b : Rat, Sz k a → Sz k b → run tab wf n f [fr a, fr b] = some (fr (op a b))
theorem op_minus {f c k m j : Nat} (hc : Makes tab wf k m c) (ht : tab[f]? = some (minusFd c)) (hj : j + j ≤ k) (hk : k ≤ 9000) : Op2 tab wf j (m + 1) f (· - ·) := by
  intro n hn a b ha hb
  obtain ⟨n, rfl⟩ : ∃ k, n = k + 1 := ⟨n - 1, by omega⟩
  rw [run_eq ht]
  have h1 := hc n (by omega) (a.num * b.den - b.num * a.den) (a.den * b.den) (Int.mul_ne_zero (den_ne a) (den_ne b)) ((ha.d'.mul hb.d').mono hj)
  rw [sub_divInt] at h1
  have m1 := mulOk_of ha.n hb.d' (by omega)
  have m2 := mulOk_of hb.n ha.d' (by omega)
  have m3 := mulOk_of ha.d' hb.d' (by omega)
  simp only [fr] at h1
  simp [bodyD, minusFd, start0, fr, bin_mul m1, bin_mul m2, bin_mul m3, h1]
theorem op_plus {f c k m j : Nat} (hc : Makes tab wf k m c) (ht : tab[f]? = some (plusFd c)) (hj : j + j ≤ k) (hk : k ≤ 9000) : Op2 tab wf j (m + 1) f (· + ·) := by
  intro n hn a b ha hb
  obtain ⟨n, rfl⟩ : ∃ k, n = k + 1 := ⟨n - 1, by omega⟩
  rw [run_eq ht]
  have h1 := hc n (by omega) (a.num * b.den + b.num * a.den) (a.den * b.den) (Int.mul_ne_zero (den_ne a) (den_ne b)) ((ha.d'.mul hb.d').mono hj)
  rw [add_divInt] at h1
  have m1 := mulOk_of ha.n hb.d' (by omega)
  have m2 := mulOk_of hb.n ha.d' (by omega)
  have m3 := mulOk_of ha.d' hb.d' (by omega)
  simp only [fr] at h1
  simp [bodyD, plusFd, start0, fr, bin_mul m1, bin_mul m2, bin_mul m3, h1]
theorem op_times {f c k m j : Nat} (hc : Makes tab wf k m c) (ht : tab[f]? = some (timesFd c)) (hj : j + j ≤ k) (hk : k ≤ 9000) : Op2 tab wf j (m + 1) f (· * ·) := by
  intro n hn a b ha hb
  obtain ⟨n, rfl⟩ : ∃ k, n = k + 1 := ⟨n - 1, by omega⟩
  rw [run_eq ht]
  have h1 := hc n (by omega) (a.num * b.num) (a.den * b.den) (Int.mul_ne_zero (den_ne a) (den_ne b)) ((ha.d'.mul hb.d').mono hj)
  rw [mul_divInt] at h1
  have m1 := mulOk_of ha.n hb.n (by omega)
  have m3 := mulOk_of ha.d' hb.d' (by omega)
  simp only [fr] at h1
  simp [bodyD, timesFd, start0, fr, bin_mul m1, bin_mul m3, h1]
theorem op_over {f c k m j : Nat} (hc : Makes tab wf k m c) (ht : tab[f]? = some (overFd c)) (hj : j + j ≤ k) (hk : k ≤ 9000) :
    ∀ n, m + 1 ≤ n → ∀ a b : Rat, Sz j a → Sz j b → b ≠ 0 → run tab wf n f [fr a, fr b] = some (fr (a / b)) := by
  intro n hn a b ha hb hz
  obtain ⟨n, rfl⟩ : ∃ k, n = k + 1 := ⟨n - 1, by omega⟩
  rw [run_eq ht]
  have h1 := hc n (by omega) (a.num * b.den) (a.den * b.num) (Int.mul_ne_zero (den_ne a) (num_ne hz)) ((ha.d'.mul hb.n).mono hj)
  rw [div_divInt] at h1
  have m1 := mulOk_of ha.n hb.d' (by omega)
  have m3 := mulOk_of ha.d' hb.n (by omega)
  simp only [fr] at h1
  simp [bodyD, overFd, start0, fr, bin_mul m1, bin_mul m3, h1]
end
end MP

/-! rows of equations: runs of taken_from, leading, divided, reduced, joined, settle, worth_of. -/
namespace MP
open PySem L2
@[simp] theorem pure_fr (q : Rat) : pure? (fr q) = some (fr q) := id rfl
@[simp] theorem ix_fr0 (q : Rat) : ixD (fr q) (.int 0) = some (.int q.num) := id (ix_t0 ..)
@[simp] theorem ix_fr1 (q : Rat) : ixD (fr q) (.int 1) = some (.int q.den) := id (ix_t1 ..)
/-- the item at k, 0 past the end -/
def gD (c : List Rat) (k : Nat) : Rat := c.getD k 0
@[simp] theorem gD_zero (q : Rat) (qs : List Rat) : gD (q :: qs) 0 = q := rfl
@[simp] theorem gD_succ (q : Rat) (qs : List Rat) (k : Nat) : gD (q :: qs) (k + 1) = gD qs k := rfl
@[simp] theorem gD_nil (k : Nat) : gD [] k = 0 := rfl
theorem gD_lt {c : List Rat} {k : Nat} (h : k < c.length) : gD c k = c[k] := by
  unfold gD
  rw [List.getD_eq_getElem?_getD, List.getElem?_eq_getElem h]; rfl
theorem getD_some {c : List Rat} {k : Nat} (h : k < c.length) : c[k]? = some (gD c k) := by
  rw [gD_lt h, List.getElem?_eq_getElem h]
theorem ix_frs {c : List Rat} {k : Nat} (h : k < c.length) : ixD (.lst (c.map fr)) (.int (k : Int)) = some (fr (gD c k)) :=
  ix_lst (by rw [List.getElem?_map, getD_some h]; rfl)
/-! ### comprehensions -/
theorem compM_map {f : D → Option (Option D)} {g : D → D} : ∀ {ds : List D}, (∀ d ∈ ds, f d = some (some (g d))) → compM f ds = some (ds.map g) := by
  intro ds
  induction ds with
  | nil => intro _; rfl
  | cons d ds ih =>
    intro h
    have h1 := h d (List.mem_cons_self ..)
    have h2 := ih fun e he => h e (List.mem_cons_of_mem _ he)
    show (match f d with | none => none | some o => match compM f ds with | none => none | some es => some (match o with | some e => e :: es | none => es)) = _
    rw [h1, h2]; rfl
theorem compM_filter {f : D → Option (Option D)} {g : D → D} {p : D → Bool} : ∀ {ds : List D}, (∀ d ∈ ds, f d = some (if p d then some (g d) else none)) → compM f ds = some ((ds.filter p).map g) := by
  intro ds
  induction ds with
  | nil => intro _; rfl
  | cons d ds ih =>
    intro h
    have h1 := h d (List.mem_cons_self ..)
    have h2 := ih fun e he => h e (List.mem_cons_of_mem _ he)
    show (match f d with | none => none | some o => match compM f ds with | none => none | some es => some (match o with | some e => e :: es | none => es)) = _
    rw [h1, h2]
    cases hp : p d <;> simp [hp]
theorem rng_nat (n : Nat) : rng 0 (n : Int) = (List.range n).map fun (k : Nat) => D.int (k : Int) := by
  simp [rng]
theorem okRng_nat {n : Nat} (h : n ≤ line) : okRng (n : Int) = true := by
  unfold okRng line at *
  simp only [Bool.and_eq_true, decide_eq_true_eq]
  omega
section
variable {Φ : Nat → List D → Option D} {wf : Nat} {ρ : Rho}
theorem comp_range {elt a : E} {j n : Nat} {g : Nat → D} (ha : evE Φ a ρ = some (.int (n : Int))) (hn : n ≤ line)
    (h : ∀ k, k < n → (evE Φ elt (ρ.set j (.val (.int (k : Int))))).bind pure? = some (g k)) :
    evE Φ (.comp elt [j] (.rng1 a) .nil [j]) ρ = some (.lst ((List.range n).map g)) := by
  rw [ev_comp]
  simp only [evIt_rng1, ha, okRng_nat hn, if_true, rng_nat]
  have : compM (stepC Φ elt [j] .nil [j] ρ) ((List.range n).map fun (k : Nat) => D.int (k : Int)) = some ((List.range n).map g) := by
    rw [compM_map (g := fun d => match d with | .int i => g i.toNat | d => d), List.map_map]
    · rfl
    · intro d hd
      obtain ⟨k, hk, rfl⟩ := List.mem_map.mp hd
      have hk := List.mem_range.mp hk
      simp only [stepC, wipeR_one, setTg_name, List.set_set, evTs_nil, h k hk]
      rfl
  rw [this]
  simp [hn]
theorem comp_range_if {elt a : E} {t : T} {j n : Nat} {g : Nat → D} {p : Nat → Bool} (ha : evE Φ a ρ = some (.int (n : Int))) (hn : n ≤ line)
    (ht : ∀ k, k < n → evT Φ t (ρ.set j (.val (.int (k : Int)))) = some (p k))
    (h : ∀ k, k < n → p k = true → (evE Φ elt (ρ.set j (.val (.int (k : Int))))).bind pure? = some (g k)) :
    evE Φ (.comp elt [j] (.rng1 a) (.cons t .nil) [j]) ρ = some (.lst (((List.range n).filter p).map g)) := by
  rw [ev_comp]
  simp only [evIt_rng1, ha, okRng_nat hn, if_true, rng_nat]
  have : compM (stepC Φ elt [j] (.cons t .nil) [j] ρ) ((List.range n).map fun (k : Nat) => D.int (k : Int)) = some (((List.range n).filter p).map g) := by
    rw [compM_filter (g := fun d => match d with | .int i => g i.toNat | d => d) (p := fun d => match d with | .int i => p i.toNat | d => false), List.filter_map, List.map_map]
    · rfl
    · intro d hd
      obtain ⟨k, hk, rfl⟩ := List.mem_map.mp hd
      have hk := List.mem_range.mp hk
      simp only [stepC, wipeR_one, setTg_name, List.set_set, evTs_cons, ht k hk, Int.toNat_natCast]
      cases hp : p k with
      | false => rfl
      | true => simp [h k hk hp]
  rw [this]
  have : ((List.range n).filter p).length ≤ n := by simpa using List.length_filter_le p (List.range n)
  simp only [List.length_map]
  rw [if_pos (decide_eq_true (by omega))]
theorem comp_seq {elt e : E} {j : Nat} {d : D} {ds : List D} {g : D → D} (ha : evE Φ e ρ = some d) (hd : lst? d = some ds) (hn : ds.length ≤ line)
    (h : ∀ d ∈ ds, (evE Φ elt (ρ.set j (.val d))).bind pure? = some (g d)) :
    evE Φ (.comp elt [j] (.seq e) .nil [j]) ρ = some (.lst (ds.map g)) := by
  rw [ev_comp]
  simp only [evIt_seq, ha, hd]
  have : compM (stepC Φ elt [j] .nil [j] ρ) ds = some (ds.map g) := by
    refine compM_map fun d hd => ?_
    simp only [stepC, wipeR_one, setTg_name, List.set_set, evTs_nil, h d hd]
  rw [this]
  simp [hn]
end
theorem forM_append (f : D → Rho → Option Fl) : ∀ (xs ys : List D) (ρ ρ' : Rho), forM f xs ρ = some (.nx ρ') → (∀ d ρ, f d ρ ≠ some (.bk ρ)) → True := fun _ _ _ _ _ _ => trivial
/-! ### rows -/
structure Row where
  c : List Rat
  b : Rat
  p : List Rat
def frs (c : List Rat) : D := .lst (c.map fr)
@[simp] theorem pure_frs (c : List Rat) : pure? (frs c) = some (frs c) := id rfl
@[simp] theorem ix_frs' {c : List Rat} {k : Nat} (h : k < c.length) : ixD (frs c) (.int (k : Int)) = some (fr (gD c k)) := ix_frs h
@[simp] theorem len_frs (c : List Rat) : primD .len [frs c] = some (.int (c.length : Int)) := by show some (D.int ((c.map fr).length : Int)) = _; rw [List.length_map]
def rowD (r : Row) : D := .tup [frs r.c, fr r.b, frs r.p]
@[simp] theorem pure_rowD (r : Row) : pure? (rowD r) = some (rowD r) := id rfl
@[simp] theorem ix_rowD0 (r : Row) : ixD (rowD r) (.int 0) = some (frs r.c) := id (ix_t0 ..)
@[simp] theorem ix_rowD1 (r : Row) : ixD (rowD r) (.int 1) = some (fr r.b) := id (ix_t1 ..)
@[simp] theorem ix_rowD2 (r : Row) : ixD (rowD r) (.int 2) = some (frs r.p) := id (ix_t2 ..)
def subV (f : Rat) (x y : List Rat) : List Rat := (List.range x.length).map fun k => gD x k - f * gD y k
def taken (r : Row) (f : Rat) (o : Row) : Row := ⟨subV f r.c o.c, r.b - f * o.b, subV f r.p o.p⟩
def divd (r : Row) (q : Rat) : Row := ⟨r.c.map (· / q), r.b / q, r.p.map (· / q)⟩
def leadFrom : Nat → List Rat → Option Nat
  | _, [] => none
  | i, q :: qs => if q ≠ 0 then some i else leadFrom (i + 1) qs
def lead (c : List Rat) : Option Nat := leadFrom 0 c
def optD : Option Nat → D
  | none => .non
  | some l => .int (l : Int)
def redR : List Row → Row → Row
  | [], r => r
  | o :: os, r => redR os (taken r (gD r.c ((lead o.c).getD 0)) o)
def joinR (kept : List Row) (r : Row) : List Row :=
  let l := (lead r.c).getD 0
  let r' := divd r (gD r.c l)
  kept.map (fun o => taken o (gD o.c l) r') ++ [r']
/-- sizes of a row: w coefficients, m parts, each up to k bits -/
structure RSz (w m k : Nat) (r : Row) : Prop where
  lc : r.c.length = w
  lp : r.p.length = m
  c : ∀ j, j < w → Sz k (gD r.c j)
  b : Sz k r.b
  p : ∀ j, j < m → Sz k (gD r.p j)
theorem leadFrom_some : ∀ {qs : List Rat} {i l : Nat}, leadFrom i qs = some l → i ≤ l ∧ l - i < qs.length ∧ gD qs (l - i) ≠ 0 ∧ ∀ k, k < l - i → gD qs k = 0 := by
  intro qs
  induction qs with
  | nil => intro i l h; cases h
  | cons q qs ih =>
    intro i l h
    unfold leadFrom at h
    by_cases hq : q ≠ 0
    · rw [if_pos hq] at h
      cases h
      exact ⟨Nat.le_refl _, by simp, by simpa using hq, fun k hk => by omega⟩
    · rw [if_neg hq] at h
      obtain ⟨h1, h2, h3, h4⟩ := ih h
      obtain ⟨m, rfl⟩ : ∃ m, l = i + 1 + m := ⟨l - (i + 1), by omega⟩
      have e1 : i + 1 + m - (i + 1) = m := by omega
      have e2 : i + 1 + m - i = m + 1 := by omega
      rw [e1] at h2 h3 h4
      rw [e2]
      refine ⟨by omega, by simp; omega, by simpa using h3, fun k hk => ?_⟩
      cases k with
      | zero => simpa using hq
      | succ k => simpa using h4 k (by omega)
theorem leadFrom_none : ∀ {qs : List Rat} {i : Nat}, leadFrom i qs = none → ∀ k, gD qs k = 0 := by
  intro qs
  induction qs with
  | nil => intro i h k; simp
  | cons q qs ih =>
    intro i h k
    unfold leadFrom at h
    by_cases hq : q ≠ 0
    · rw [if_pos hq] at h; cases h
    · rw [if_neg hq] at h
      cases k with
      | zero => simpa using hq
      | succ k => simpa using ih h k
theorem lead_some {c : List Rat} {l : Nat} (h : lead c = some l) : l < c.length ∧ gD c l ≠ 0 ∧ ∀ k, k < l → gD c k = 0 := by
  have := leadFrom_some h
  simpa using this
theorem lead_none {c : List Rat} (h : lead c = none) : ∀ k, gD c k = 0 := leadFrom_none h
/-! ### the defs -/
def takenFd (mi ti : Nat) : Fd := ⟨3, 6, (.cons (.set 3 (.comp (.call mi (.cons (.idx (.idx (.slot 0) (.cint 0)) (.slot 5)) (.cons (.call ti (.cons (.slot 1) (.cons (.idx (.idx (.slot 2) (.cint 0)) (.slot 5)) .nil)) []) .nil)) []) [5] (.rng1 (.prim .len (.cons (.idx (.slot 0) (.cint 0)) .nil))) .nil [5])) (.cons (.set 4 (.comp (.call mi (.cons (.idx (.idx (.slot 0) (.cint 2)) (.slot 5)) (.cons (.call ti (.cons (.slot 1) (.cons (.idx (.idx (.slot 2) (.cint 2)) (.slot 5)) .nil)) []) .nil)) []) [5] (.rng1 (.prim .len (.cons (.idx (.slot 0) (.cint 2)) .nil))) .nil [5])) (.cons (.ret (.tup (.cons (.slot 3) (.cons (.call mi (.cons (.idx (.slot 0) (.cint 1)) (.cons (.call ti (.cons (.slot 1) (.cons (.idx (.slot 2) (.cint 1)) .nil)) []) .nil)) []) (.cons (.slot 4) .nil))))) .nil)))⟩
def leadingFd : Fd := ⟨1, 2, (.cons (.forS [1] (.rng1 (.prim .len (.cons (.idx (.slot 0) (.cint 0)) .nil))) (.cons (.ifS (.cmp .ne (.idx (.idx (.idx (.slot 0) (.cint 0)) (.slot 1)) (.cint 0)) (.cint 0)) (.cons (.ret (.slot 1)) .nil) .nil) .nil)) (.cons (.ret .cnon) .nil))⟩
def dividedFd (oi : Nat) : Fd := ⟨2, 3, (.cons (.ret (.tup (.cons (.comp (.call oi (.cons (.slot 2) (.cons (.slot 1) .nil)) []) [2] (.seq (.idx (.slot 0) (.cint 0))) .nil [2]) (.cons (.call oi (.cons (.idx (.slot 0) (.cint 1)) (.cons (.slot 1) .nil)) []) (.cons (.comp (.call oi (.cons (.slot 2) (.cons (.slot 1) .nil)) []) [2] (.seq (.idx (.slot 0) (.cint 2))) .nil [2]) .nil))))) .nil)⟩
def reducedFd (ta le : Nat) : Fd := ⟨2, 3, (.cons (.forS [2] (.seq (.slot 0)) (.cons (.set 1 (.call ta (.cons (.slot 1) (.cons (.idx (.idx (.slot 1) (.cint 0)) (.call le (.cons (.slot 2) .nil) [])) (.cons (.slot 2) .nil))) [])) .nil)) (.cons (.ret (.slot 1)) .nil))⟩
def joinedFd (ta le di : Nat) : Fd := ⟨2, 4, (.cons (.set 2 (.call le (.cons (.slot 1) .nil) [])) (.cons (.set 1 (.call di (.cons (.slot 1) (.cons (.idx (.idx (.slot 1) (.cint 0)) (.slot 2)) .nil)) [])) (.cons (.ret (.bin .add (.comp (.call ta (.cons (.slot 3) (.cons (.idx (.idx (.slot 3) (.cint 0)) (.slot 2)) (.cons (.slot 1) .nil))) []) [3] (.seq (.slot 0)) .nil [3]) (.lst (.cons (.slot 1) .nil)))) .nil)))⟩
section
variable {tab : List Fd} {wf : Nat}
theorem run_rt {fd : Fd} {f n : Nat} {ds : List D} (ρ : Rho) {d : D} (h : tab[f]? = some fd) (hl : ds.length = fd.np) (hρ : start0 fd ds = ρ) (hb : evSs (run tab wf n) wf fd.body ρ = some (.rt d)) : run tab wf (n + 1) f ds = some d := by
  rw [run_eq h]
  subst hρ
  simp only [bodyD, hl, hb, decide_true, if_true]
theorem run_nx {fd : Fd} {f n : Nat} {ds : List D} (ρ : Rho) {ρ' : Rho} (h : tab[f]? = some fd) (hl : ds.length = fd.np) (hρ : start0 fd ds = ρ) (hb : evSs (run tab wf n) wf fd.body ρ = some (.nx ρ')) : run tab wf (n + 1) f ds = some .non := by
  rw [run_eq h]
  subst hρ
  simp only [bodyD, hl, hb, decide_true, if_true]
theorem set_sub {f : Rat} {x y : List Rat} (hy : y.length = x.length) {mi ti n : Nat} (hm : Op2 tab wf 2400 n mi (· - ·)) (ht : Op2 tab wf 2400 n ti (· * ·))
    {k : Nat} (hk : k < x.length) (hx : Sz 1200 (gD x k)) (hyk : Sz 1200 (gD y k)) (hf : Sz 1200 f) {N : Nat} (hN : n ≤ N) :
    run tab wf N ti [fr f, fr (gD y k)] = some (fr (f * gD y k)) ∧ run tab wf N mi [fr (gD x k), fr (f * gD y k)] = some (fr (gD x k - f * gD y k)) :=
  ⟨ht N hN _ _ (hf.mono (by decide)) (hyk.mono (by decide)), hm N hN _ _ (hx.mono (by decide)) (hf.mul hyk)⟩
theorem run_taken {t mi ti n w m : Nat} (ht : tab[t]? = some (takenFd mi ti)) (hmi : Op2 tab wf 2400 n mi (· - ·)) (hti : Op2 tab wf 2400 n ti (· * ·))
    {r o : Row} {f : Rat} (hr : RSz w m 1200 r) (ho : RSz w m 1200 o) (hf : Sz 1200 f) (hw : w ≤ line) (hm : m ≤ line) {N : Nat} (hN : n + 1 ≤ N) :
    run tab wf N t [rowD r, fr f, rowD o] = some (rowD (taken r f o)) := by
  obtain ⟨N, rfl⟩ : ∃ k, N = k + 1 := ⟨N - 1, by omega⟩
  have h1 : evE (run tab wf N) (.comp (.call mi (.cons (.idx (.idx (.slot 0) (.cint 0)) (.slot 5)) (.cons (.call ti (.cons (.slot 1) (.cons (.idx (.idx (.slot 2) (.cint 0)) (.slot 5)) .nil)) []) .nil)) []) [5] (.rng1 (.prim .len (.cons (.idx (.slot 0) (.cint 0)) .nil))) .nil [5]) [.val (rowD r), .val (fr f), .val (rowD o), .non, .non, .non]
      = some (frs (subV f r.c o.c)) := by
    rw [comp_range (n := r.c.length) (g := fun k => fr (gD r.c k - f * gD o.c k))]
    · simp [frs, subV]
    · simp
    · rw [hr.lc]; exact hw
    · intro k hk
      have hk' : k < w := by rw [← hr.lc]; exact hk
      have hk2 : k < o.c.length := by rw [ho.lc]; exact hk'
      have := set_sub (N := N) (by rw [ho.lc, hr.lc]) hmi hti hk (hr.c k hk') (ho.c k hk') hf (by omega)
      simp [ix_frs' hk, ix_frs' hk2, this.1, this.2]
  have h2 : evE (run tab wf N) (.comp (.call mi (.cons (.idx (.idx (.slot 0) (.cint 2)) (.slot 5)) (.cons (.call ti (.cons (.slot 1) (.cons (.idx (.idx (.slot 2) (.cint 2)) (.slot 5)) .nil)) []) .nil)) []) [5] (.rng1 (.prim .len (.cons (.idx (.slot 0) (.cint 2)) .nil))) .nil [5]) [.val (rowD r), .val (fr f), .val (rowD o), .val (frs (subV f r.c o.c)), .non, .non]
      = some (frs (subV f r.p o.p)) := by
    rw [comp_range (n := r.p.length) (g := fun k => fr (gD r.p k - f * gD o.p k))]
    · simp [frs, subV]
    · simp
    · rw [hr.lp]; exact hm
    · intro k hk
      have hk' : k < m := by rw [← hr.lp]; exact hk
      have hk2 : k < o.p.length := by rw [ho.lp]; exact hk'
      have := set_sub (N := N) (by rw [ho.lp, hr.lp]) hmi hti hk (hr.p k hk') (ho.p k hk') hf (by omega)
      simp [ix_frs' hk, ix_frs' hk2, this.1, this.2]
  have h3 := hti N (by omega) f o.b (hf.mono (by decide)) (ho.b.mono (by decide))
  have h4 := hmi N (by omega) r.b (f * o.b) (hr.b.mono (by decide)) (hf.mul ho.b)
  have h5 : (3 : Nat) ≤ line := by decide
  refine run_rt [.val (rowD r), .val (fr f), .val (rowD o), .non, .non, .non] ht rfl rfl ?_
  show _ = some (Fl.rt (D.tup [frs (subV f r.c o.c), fr (r.b - f * o.b), frs (subV f r.p o.p)]))
  simp [takenFd, h1, h2, h3, h4, h5]
theorem lead_loop {Φ : Nat → List D → Option D} {r : Row} : ∀ (suf : List Rat) (i : Nat) (v : SV), r.c.drop i = suf →
    (∀ l, leadFrom i suf = some l → forM (stepF Φ wf [1] (.cons (.ifS (.cmp .ne (.idx (.idx (.idx (.slot 0) (.cint 0)) (.slot 1)) (.cint 0)) (.cint 0)) (.cons (.ret (.slot 1)) .nil) .nil) .nil)) ((List.range' i suf.length).map fun (k : Nat) => D.int (k : Int)) [.val (rowD r), v] = some (.rt (.int (l : Int)))) ∧
    (leadFrom i suf = none → ∃ v', forM (stepF Φ wf [1] (.cons (.ifS (.cmp .ne (.idx (.idx (.idx (.slot 0) (.cint 0)) (.slot 1)) (.cint 0)) (.cint 0)) (.cons (.ret (.slot 1)) .nil) .nil) .nil)) ((List.range' i suf.length).map fun (k : Nat) => D.int (k : Int)) [.val (rowD r), v] = some (.nx [.val (rowD r), v'])) := by
  intro suf
  induction suf with
  | nil => intro i v h; exact ⟨fun l hl => by simp [leadFrom] at hl, fun _ => ⟨v, rfl⟩⟩
  | cons q qs ih =>
    intro i v h
    have hi : i < r.c.length := by
      have := congrArg List.length h
      simp at this; omega
    have hq : gD r.c i = q := by
      unfold gD; rw [List.getD_eq_getElem?_getD, ← List.head?_drop, h]; rfl
    have hd : r.c.drop (i + 1) = qs := by
      rw [← List.tail_drop, h]; rfl
    have hs : stepF Φ wf [1] (.cons (.ifS (.cmp .ne (.idx (.idx (.idx (.slot 0) (.cint 0)) (.slot 1)) (.cint 0)) (.cint 0)) (.cons (.ret (.slot 1)) .nil) .nil) .nil) (.int (i : Int)) [.val (rowD r), v] =
        some (if q ≠ 0 then .rt (.int (i : Int)) else .nx [.val (rowD r), .val (.int (i : Int))]) := by
      by_cases h0 : q = 0
      · simp [stepF, ix_frs' hi, hq, h0]
      · simp [stepF, ix_frs' hi, hq, h0, Rat.num_eq_zero]
    have hl : (List.range' i (q :: qs).length).map (fun (k : Nat) => D.int (k : Int)) = .int (i : Int) :: (List.range' (i + 1) qs.length).map fun (k : Nat) => D.int (k : Int) := rfl
    rw [hl, forM_cons, hs]
    by_cases h0 : q = 0
    · have e : leadFrom i (q :: qs) = leadFrom (i + 1) qs := by unfold leadFrom; rw [if_neg (by simpa using h0)]; cases qs <;> rfl
      rw [e, if_neg (by simpa using h0)]
      exact ih (i + 1) _ hd
    · have e : leadFrom i (q :: qs) = some i := by unfold leadFrom; rw [if_pos h0]
      rw [e, if_pos h0]
      exact ⟨fun l hl => by cases hl; rfl, fun h => by cases h⟩
theorem run_leading {t w m k N : Nat} (ht : tab[t]? = some leadingFd) {r : Row} (hr : RSz w m k r) (hw : w ≤ line) (hN : 1 ≤ N) :
    run tab wf N t [rowD r] = some (optD (lead r.c)) := by
  obtain ⟨N, rfl⟩ : ∃ k, N = k + 1 := ⟨N - 1, by omega⟩
  have h := lead_loop (wf := wf) (Φ := run tab wf N) (r := r) r.c 0 .non rfl
  have hk := okRng_nat (n := r.c.length) (by rw [hr.lc]; exact hw)
  have e : rng 0 (r.c.length : Int) = (List.range' 0 r.c.length).map fun (k : Nat) => D.int (k : Int) := by rw [rng_nat, List.range_eq_range']
  cases hl : lead r.c with
  | none =>
    obtain ⟨v', h'⟩ := h.2 hl
    refine run_rt [.val (rowD r), .non] ht rfl rfl ?_
    simp [leadingFd, evS_forF, hk, e, h', optD]
  | some l =>
    have h' := h.1 l hl
    refine run_rt [.val (rowD r), .non] ht rfl rfl ?_
    simp [leadingFd, evS_forF, hk, e, h', optD]
theorem run_divided {t oi n w m : Nat} (ht : tab[t]? = some (dividedFd oi)) (ho : ∀ N, n ≤ N → ∀ a b : Rat, Sz 2400 a → Sz 2400 b → b ≠ 0 → run tab wf N oi [fr a, fr b] = some (fr (a / b)))
    {r : Row} {q : Rat} (hr : RSz w m 1200 r) (hq : Sz 1200 q) (hz : q ≠ 0) (hw : w ≤ line) (hm : m ≤ line) {N : Nat} (hN : n + 1 ≤ N) :
    run tab wf N t [rowD r, fr q] = some (rowD (divd r q)) := by
  obtain ⟨N, rfl⟩ : ∃ k, N = k + 1 := ⟨N - 1, by omega⟩
  have key : ∀ (c : List Rat) (e : E), evE (run tab wf N) e [.val (rowD r), .val (fr q), .non] = some (frs c) → c.length ≤ line → (∀ x ∈ c, Sz 1200 x) →
      evE (run tab wf N) (.comp (.call oi (.cons (.slot 2) (.cons (.slot 1) .nil)) []) [2] (.seq e) .nil [2]) [.val (rowD r), .val (fr q), .non] = some (frs (c.map (· / q))) := by
    intro c e he hc hs
    have : evE (run tab wf N) (.comp (.call oi (.cons (.slot 2) (.cons (.slot 1) .nil)) []) [2] (.seq e) .nil [2]) [.val (rowD r), .val (fr q), .non] = some (.lst ((c.map fr).map fun d => match d with | .tup [.int a, .int b] => fr (mkRat a b.toNat / q) | d => d)) := by
      refine comp_seq he rfl (by simpa using hc) fun d hd => ?_
      obtain ⟨x, hx, rfl⟩ := List.mem_map.mp hd
      have h1 := ho N (by omega) x q ((hs x hx).mono (by decide)) (hq.mono (by decide)) hz
      have h2 : mkRat x.num ((x.den : Int)).toNat = x := by rw [Int.toNat_natCast, Rat.mkRat_self]
      simp [h1]
      show fr (x / q) = fr (mkRat x.num ((x.den : Int)).toNat / q)
      rw [h2]
    rw [this, List.map_map]
    simp only [frs, List.map_map]
    congr 2
    refine List.map_congr_left fun x hx => ?_
    show fr (mkRat x.num ((x.den : Int)).toNat / q) = fr (x / q)
    rw [Int.toNat_natCast, Rat.mkRat_self]
  have mem : ∀ {c : List Rat} {w : Nat}, c.length = w → (∀ j, j < w → Sz 1200 (gD c j)) → ∀ x ∈ c, Sz 1200 x := by
    intro c w hl hs x hx
    obtain ⟨j, hj, rfl⟩ := List.getElem_of_mem hx
    have := hs j (by omega)
    rwa [gD_lt hj] at this
  have h1 := key r.c (.idx (.slot 0) (.cint 0)) (by simp) (by rw [hr.lc]; exact hw) (mem hr.lc hr.c)
  have h2 := key r.p (.idx (.slot 0) (.cint 2)) (by simp) (by rw [hr.lp]; exact hm) (mem hr.lp hr.p)
  have h3 := ho N (by omega) r.b q (hr.b.mono (by decide)) (hq.mono (by decide)) hz
  have h5 : (3 : Nat) ≤ line := by decide
  refine run_rt [.val (rowD r), .val (fr q), .non] ht rfl rfl ?_
  show _ = some (Fl.rt (D.tup [frs (r.c.map (· / q)), fr (r.b / q), frs (r.p.map (· / q))]))
  simp [dividedFd, h1, h2, h3, h5]
/-- what reduced needs on its way -/
def OkRed (w m : Nat) : List Row → Row → Prop
  | [], _ => True
  | o :: os, r => RSz w m 1200 r ∧ RSz w m 1200 o ∧ (∃ l, lead o.c = some l) ∧ OkRed w m os (taken r (gD r.c ((lead o.c).getD 0)) o)
theorem run_reduced {t ta le n w m : Nat} (ht : tab[t]? = some (reducedFd ta le))
    (hta : ∀ N, n ≤ N → ∀ (r o : Row) (f : Rat), RSz w m 1200 r → RSz w m 1200 o → Sz 1200 f → run tab wf N ta [rowD r, fr f, rowD o] = some (rowD (taken r f o)))
    (hle : ∀ N, n ≤ N → ∀ (r : Row), RSz w m 1200 r → run tab wf N le [rowD r] = some (optD (lead r.c))) {kept : List Row} {r : Row} (h : OkRed w m kept r) {N : Nat} (hN : n + 1 ≤ N) :
    run tab wf N t [.lst (kept.map rowD), rowD r] = some (rowD (redR kept r)) := by
  obtain ⟨N, rfl⟩ : ∃ k, N = k + 1 := ⟨N - 1, by omega⟩
  have loop : ∀ (os : List Row) (r : Row) (a v : SV), OkRed w m os r → ∃ v', forM (stepF (run tab wf N) wf [2] (.cons (.set 1 (.call ta (.cons (.slot 1) (.cons (.idx (.idx (.slot 1) (.cint 0)) (.call le (.cons (.slot 2) .nil) [])) (.cons (.slot 2) .nil))) [])) .nil)) (os.map rowD) [a, .val (rowD r), v] = some (.nx [a, .val (rowD (redR os r)), v']) := by
    intro os
    induction os with
    | nil => intro r a v _; exact ⟨v, rfl⟩
    | cons o os ih =>
      intro r a v ⟨hr, ho, ⟨l, hl⟩, h⟩
      have hll := lead_some hl
      have hlw : l < w := by rw [← ho.lc]; exact hll.1
      have hlr : l < r.c.length := by rw [hr.lc]; exact hlw
      rw [hl] at h
      have h1 := hle N (by omega) o ho
      have h2 := hta N (by omega) r o (gD r.c l) hr ho (hr.c l hlw)
      have hs : stepF (run tab wf N) wf [2] (.cons (.set 1 (.call ta (.cons (.slot 1) (.cons (.idx (.idx (.slot 1) (.cint 0)) (.call le (.cons (.slot 2) .nil) [])) (.cons (.slot 2) .nil))) [])) .nil) (rowD o) [a, .val (rowD r), v] = some (.nx [a, .val (rowD (taken r (gD r.c l) o)), .val (rowD o)]) := by
        simp [stepF, h1, hl, optD, ix_frs' hlr, h2]
      rw [List.map_cons, forM_cons, hs]
      have e : redR (o :: os) r = redR os (taken r (gD r.c l) o) := by
        show redR os (taken r (gD r.c ((lead o.c).getD 0)) o) = _
        rw [hl]; rfl
      rw [e]
      exact ih _ a _ h
  obtain ⟨v', h'⟩ := loop kept r (.val (.lst (kept.map rowD))) .non h
  refine run_rt [.val (.lst (kept.map rowD)), .val (rowD r), .non] ht rfl rfl ?_
  simp [reducedFd, evS_forF, lst?, h']
theorem run_joined {t ta le di n w m : Nat} (ht : tab[t]? = some (joinedFd ta le di))
    (hta : ∀ N, n ≤ N → ∀ (r o : Row) (f : Rat), RSz w m 1200 r → RSz w m 1200 o → Sz 1200 f → run tab wf N ta [rowD r, fr f, rowD o] = some (rowD (taken r f o)))
    (hle : ∀ N, n ≤ N → ∀ (r : Row), RSz w m 1200 r → run tab wf N le [rowD r] = some (optD (lead r.c)))
    (hdi : ∀ N, n ≤ N → ∀ (r : Row) (q : Rat), RSz w m 1200 r → Sz 1200 q → q ≠ 0 → run tab wf N di [rowD r, fr q] = some (rowD (divd r q)))
    {kept : List Row} {r : Row} {l : Nat} (hl : lead r.c = some l) (hr : RSz w m 1200 r) (hd : RSz w m 1200 (divd r (gD r.c l))) (hk : ∀ o ∈ kept, RSz w m 1200 o) (hn : kept.length < line) {N : Nat} (hN : n + 1 ≤ N) :
    run tab wf N t [.lst (kept.map rowD), rowD r] = some (.lst ((joinR kept r).map rowD)) := by
  obtain ⟨N, rfl⟩ : ∃ k, N = k + 1 := ⟨N - 1, by omega⟩
  have hll := lead_some hl
  have hlw : l < w := by rw [← hr.lc]; exact hll.1
  have h1 := hle N (by omega) r hr
  have h2 := hdi N (by omega) r (gD r.c l) hr (hr.c l hlw) hll.2.1
  have h3 : evE (run tab wf N) (.comp (.call ta (.cons (.slot 3) (.cons (.idx (.idx (.slot 3) (.cint 0)) (.slot 2)) (.cons (.slot 1) .nil))) []) [3] (.seq (.slot 0)) .nil [3]) [.val (.lst (kept.map rowD)), .val (rowD (divd r (gD r.c l))), .val (.int (l : Int)), .non] = some (.lst ((kept.map (fun o => taken o (gD o.c l) (divd r (gD r.c l)))).map rowD)) := by
    rw [ev_comp]
    have : compM (stepC (run tab wf N) (.call ta (.cons (.slot 3) (.cons (.idx (.idx (.slot 3) (.cint 0)) (.slot 2)) (.cons (.slot 1) .nil))) []) [3] .nil [3] [.val (.lst (kept.map rowD)), .val (rowD (divd r (gD r.c l))), .val (.int (l : Int)), .non]) (kept.map rowD) = some ((kept.map (fun o => taken o (gD o.c l) (divd r (gD r.c l)))).map rowD) := by
      generalize D.lst (kept.map rowD) = K
      clear h1 h2 hn
      induction kept with
      | nil => rfl
      | cons o os ih =>
        have ho := hk o (List.mem_cons_self ..)
        have hlo : l < o.c.length := by rw [ho.lc]; exact hlw
        have h4 := hta N (by omega) o (divd r (gD r.c l)) (gD o.c l) ho hd (ho.c l hlw)
        have h5 := ih fun x hx => hk x (List.mem_cons_of_mem _ hx)
        have hs : stepC (run tab wf N) (.call ta (.cons (.slot 3) (.cons (.idx (.idx (.slot 3) (.cint 0)) (.slot 2)) (.cons (.slot 1) .nil))) []) [3] .nil [3] [.val K, .val (rowD (divd r (gD r.c l))), .val (.int (l : Int)), .non] (rowD o) = some (some (rowD (taken o (gD o.c l) (divd r (gD r.c l))))) := by
          simp [stepC, ix_frs' hlo, h4]
        simp only [List.map_cons]
        unfold compM
        rw [hs, h5]
    simp only [evIt_seq, ev_slot, List.getElem?_cons_zero, lst?, this, List.length_map]
    rw [if_pos (decide_eq_true (by omega))]
  have hlr : l < r.c.length := hll.1
  have h6 : decide ((kept.map (fun o => taken o (gD o.c l) (divd r (gD r.c l)))).length + 1 ≤ line) = true := decide_eq_true (by simp; omega)
  have h7 : catD (.lst ((kept.map (fun o => taken o (gD o.c l) (divd r (gD r.c l)))).map rowD)) (.lst [rowD (divd r (gD r.c l))]) = some ((joinR kept r).map rowD) := by
    show (if decide (((kept.map (fun o => taken o (gD o.c l) (divd r (gD r.c l)))).map rowD).length + 1 ≤ line) = true then _ else _) = _
    rw [List.length_map, if_pos h6]
    simp only [joinR, hl, Option.getD_some, List.map_append, List.map_cons, List.map_nil]
  have h8 : (1 : Nat) ≤ line := by decide
  refine run_rt [.val (.lst (kept.map rowD)), .val (rowD r), .non, .non] ht rfl rfl ?_
  have h9 : evE (run tab wf N) (.bin .add (.comp (.call ta (.cons (.slot 3) (.cons (.idx (.idx (.slot 3) (.cint 0)) (.slot 2)) (.cons (.slot 1) .nil))) []) [3] (.seq (.slot 0)) .nil [3]) (.lst (.cons (.slot 1) .nil))) [.val (.lst (kept.map rowD)), .val (rowD (divd r (gD r.c l))), .val (.int (l : Int)), .non] = some (.lst ((joinR kept r).map rowD)) := by
    rw [ev_bin, h3]
    simp [h8]
    simp at h7
    rw [h7]
  simp [joinedFd, h1, hl, optD, ix_frs' hlr, h2, -ev_bin, h9]
end
end MP

/-! equality of data without truth values: a == b is a = b. -/
namespace MP
open PySem L2
mutual
/-- numbers, None, texts, tuples and lists of them, k deep at most -/
def okD : Nat → D → Bool
  | _, .non => true
  | _, .int _ => true
  | _, .str x => PyData.strOk x
  | k + 1, .tup ds => okDs k ds
  | k + 1, .lst ds => okDs k ds
  | _, _ => false
def okDs : Nat → List D → Bool
  | _, [] => true
  | k, d :: ds => okD k d && okDs k ds
end
mutual
theorem ok_py : ∀ (k : Nat) (d : D), okD k d = true → ∃ x, toPy d = some x ∧ x.canLay0 = true ∧ x.depth ≤ k
  | k, .non, _ => ⟨.none, by simp [toPy], rfl, by simp [PyData.depth]⟩
  | k, .int i, _ => ⟨.int i, by simp [toPy], rfl, by simp [PyData.depth]⟩
  | k, .str x, h => ⟨.str x, by simp [toPy], by cases k <;> simpa [okD, PyData.canLay0] using h, by simp [PyData.depth]⟩
  | 0, .tup ds, h => by simp [okD] at h
  | k + 1, .tup ds, h => by
    obtain ⟨xs, h1, h2, h3⟩ := oks_py k ds (by simpa [okD] using h)
    exact ⟨.tuple xs, by simp [toPy, h1], by simpa [PyData.canLay0] using h2, by simp [PyData.depth]; omega⟩
  | 0, .lst ds, h => by simp [okD] at h
  | k + 1, .lst ds, h => by
    obtain ⟨xs, h1, h2, h3⟩ := oks_py k ds (by simpa [okD] using h)
    exact ⟨.list xs, by simp [toPy, h1], by simpa [PyData.canLay0] using h2, by simp [PyData.depth]; omega⟩
  | k, .bl b, h => by cases k <;> simp [okD] at h
  | k, .own b, h => by cases k <;> simp [okD] at h
  | k, .obj t b, h => by cases k <;> simp [okD] at h
theorem oks_py : ∀ (k : Nat) (ds : List D), okDs k ds = true → ∃ xs, toPys ds = some xs ∧ PyData.canLayAll0 xs = true ∧ PyData.depthAll xs ≤ k
  | k, [], _ => ⟨[], by simp [toPys], rfl, by simp [PyData.depthAll]⟩
  | k, d :: ds, h => by
    have h' : okD k d = true ∧ okDs k ds = true := by simpa [okDs] using h
    obtain ⟨x, h1, h2, h3⟩ := ok_py k d h'.1
    obtain ⟨xs, k1, k2, k3⟩ := oks_py k ds h'.2
    exact ⟨x :: xs, by simp [toPys, h1, k1], by simp [PyData.canLayAll0, h2, k2], by simp [PyData.depthAll]; omega⟩
end
theorem okt {k : Nat} {ds : List D} (h : okD k (.tup ds) = true) : ∃ j, okDs j ds = true := by
  cases k with
  | zero => simp [okD] at h
  | succ k => exact ⟨k, by simpa [okD] using h⟩
theorem okl {k : Nat} {ds : List D} (h : okD k (.lst ds) = true) : ∃ j, okDs j ds = true := by
  cases k with
  | zero => simp [okD] at h
  | succ k => exact ⟨k, by simpa [okD] using h⟩
theorem ok_bl {k : Nat} {b : Bool} (h : okD k (.bl b) = true) : False := by cases k <;> simp [okD] at h
theorem ok_own {k : Nat} {b : List D} (h : okD k (.own b) = true) : False := by cases k <;> simp [okD] at h
theorem ok_obj {k t : Nat} {b : D} (h : okD k (.obj t b) = true) : False := by cases k <;> simp [okD] at h
theorem py_tup {ds : List D} {x : PyData} (h : toPy (.tup ds) = some x) : ∃ xs, toPys ds = some xs ∧ x = .tuple xs := by
  unfold toPy at h
  cases hx : toPys ds with
  | none => rw [hx] at h; cases h
  | some xs => rw [hx] at h; cases h; exact ⟨xs, rfl, rfl⟩
theorem py_lst {ds : List D} {x : PyData} (h : toPy (.lst ds) = some x) : ∃ xs, toPys ds = some xs ∧ x = .list xs := by
  unfold toPy at h
  cases hx : toPys ds with
  | none => rw [hx] at h; cases h
  | some xs => rw [hx] at h; cases h; exact ⟨xs, rfl, rfl⟩
theorem py_cons {d : D} {ds : List D} {x : List PyData} (h : toPys (d :: ds) = some x) : ∃ y ys, toPy d = some y ∧ toPys ds = some ys ∧ x = y :: ys := by
  unfold toPys at h
  cases hx : toPy d with
  | none => rw [hx] at h; cases h
  | some y => cases hy : toPys ds with
    | none => rw [hx, hy] at h; cases h
    | some ys => rw [hx, hy] at h; cases h; exact ⟨y, ys, rfl, rfl, rfl⟩
mutual
theorem ok_eqv : ∀ (d e : D) (k j : Nat) (x y : PyData), okD k d = true → okD j e = true → toPy d = some x → toPy e = some y → PyData.eqv x y = true → d = e
  | .non, e, k, j, x, y, h, h', hx, hy, q => by
    cases e with
    | non => rfl
    | bl b => exact (ok_bl h').elim
    | own b => exact (ok_own h').elim
    | obj t b => exact (ok_obj h').elim
    | int i => simp [toPy] at hx hy; subst hx hy; simp [PyData.eqv] at q
    | str i => simp [toPy] at hx hy; subst hx hy; simp [PyData.eqv] at q
    | tup ds => obtain ⟨xs, _, rfl⟩ := py_tup hy; simp [toPy] at hx; subst hx; simp [PyData.eqv] at q
    | lst ds => obtain ⟨xs, _, rfl⟩ := py_lst hy; simp [toPy] at hx; subst hx; simp [PyData.eqv] at q
  | .int a, e, k, j, x, y, h, h', hx, hy, q => by
    cases e with
    | bl b => exact (ok_bl h').elim
    | own b => exact (ok_own h').elim
    | obj t b => exact (ok_obj h').elim
    | non => simp [toPy] at hx hy; subst hx hy; simp [PyData.eqv] at q
    | int i => simp [toPy] at hx hy; subst hx hy; simp [PyData.eqv] at q; rw [q]
    | str i => simp [toPy] at hx hy; subst hx hy; simp [PyData.eqv] at q
    | tup ds => obtain ⟨xs, _, rfl⟩ := py_tup hy; simp [toPy] at hx; subst hx; simp [PyData.eqv] at q
    | lst ds => obtain ⟨xs, _, rfl⟩ := py_lst hy; simp [toPy] at hx; subst hx; simp [PyData.eqv] at q
  | .str a, e, k, j, x, y, h, h', hx, hy, q => by
    cases e with
    | bl b => exact (ok_bl h').elim
    | own b => exact (ok_own h').elim
    | obj t b => exact (ok_obj h').elim
    | non => simp [toPy] at hx hy; subst hx hy; simp [PyData.eqv] at q
    | int i => simp [toPy] at hx hy; subst hx hy; simp [PyData.eqv] at q
    | str i => simp [toPy] at hx hy; subst hx hy; simp [PyData.eqv] at q; rw [q]
    | tup ds => obtain ⟨xs, _, rfl⟩ := py_tup hy; simp [toPy] at hx; subst hx; simp [PyData.eqv] at q
    | lst ds => obtain ⟨xs, _, rfl⟩ := py_lst hy; simp [toPy] at hx; subst hx; simp [PyData.eqv] at q
  | .tup ds, e, k, j, x, y, h, h', hx, hy, q => by
    obtain ⟨xs, h1, rfl⟩ := py_tup hx
    cases e with
    | bl b => exact (ok_bl h').elim
    | own b => exact (ok_own h').elim
    | obj t b => exact (ok_obj h').elim
    | non => simp [toPy] at hy; subst hy; simp [PyData.eqv] at q
    | int i => simp [toPy] at hy; subst hy; simp [PyData.eqv] at q
    | str i => simp [toPy] at hy; subst hy; simp [PyData.eqv] at q
    | tup es =>
      obtain ⟨ys, h2, rfl⟩ := py_tup hy
      obtain ⟨k', o1⟩ := okt h
      obtain ⟨j', o2⟩ := okt h'
      rw [oks_eqv ds es k' j' xs ys o1 o2 h1 h2 (by simpa [PyData.eqv] using q)]
    | lst es => obtain ⟨ys, _, rfl⟩ := py_lst hy; simp [PyData.eqv] at q
  | .lst ds, e, k, j, x, y, h, h', hx, hy, q => by
    obtain ⟨xs, h1, rfl⟩ := py_lst hx
    cases e with
    | bl b => exact (ok_bl h').elim
    | own b => exact (ok_own h').elim
    | obj t b => exact (ok_obj h').elim
    | non => simp [toPy] at hy; subst hy; simp [PyData.eqv] at q
    | int i => simp [toPy] at hy; subst hy; simp [PyData.eqv] at q
    | str i => simp [toPy] at hy; subst hy; simp [PyData.eqv] at q
    | lst es =>
      obtain ⟨ys, h2, rfl⟩ := py_lst hy
      obtain ⟨k', o1⟩ := okl h
      obtain ⟨j', o2⟩ := okl h'
      rw [oks_eqv ds es k' j' xs ys o1 o2 h1 h2 (by simpa [PyData.eqv] using q)]
    | tup es => obtain ⟨ys, _, rfl⟩ := py_tup hy; simp [PyData.eqv] at q
  | .bl b, _, _, _, _, _, h, _, _, _, _ => (ok_bl h).elim
  | .own b, _, _, _, _, _, h, _, _, _, _ => (ok_own h).elim
  | .obj t b, _, _, _, _, _, h, _, _, _, _ => (ok_obj h).elim
theorem oks_eqv : ∀ (ds es : List D) (k j : Nat) (xs ys : List PyData), okDs k ds = true → okDs j es = true → toPys ds = some xs → toPys es = some ys → PyData.eqvAll xs ys = true → ds = es
  | [], [], _, _, _, _, _, _, _, _, _ => rfl
  | [], e :: es, _, _, xs, ys, _, _, hx, hy, q => by
    obtain ⟨y, ys, _, _, rfl⟩ := py_cons hy
    simp [toPys] at hx; subst hx; simp [PyData.eqvAll] at q
  | d :: ds, [], _, _, xs, ys, _, _, hx, hy, q => by
    obtain ⟨x, xs, _, _, rfl⟩ := py_cons hx
    simp [toPys] at hy; subst hy; simp [PyData.eqvAll] at q
  | d :: ds, e :: es, k, j, xs, ys, h, h', hx, hy, q => by
    obtain ⟨x, xs, h1, h2, rfl⟩ := py_cons hx
    obtain ⟨y, ys, h3, h4, rfl⟩ := py_cons hy
    have o1 : okD k d = true ∧ okDs k ds = true := by simpa [okDs] using h
    have o2 : okD j e = true ∧ okDs j es = true := by simpa [okDs] using h'
    have q' : PyData.eqv x y = true ∧ PyData.eqvAll xs ys = true := by simpa [PyData.eqvAll] using q
    rw [ok_eqv d e k j x y o1.1 o2.1 h1 h3 q'.1, oks_eqv ds es k j xs ys o1.2 o2.2 h2 h4 q'.2]
end
open Classical in
theorem eq_ok {a b : D} {j k : Nat} (ha : okD j a = true) (hb : okD k b = true) (hj : j ≤ 64) (hk : k ≤ 64) : cmpD .eq a b = some (decide (a = b)) := by
  have sa : seen a = a := by cases a <;> first | rfl | exact (ok_own ha).elim
  have sb : seen b = b := by cases b <;> first | rfl | exact (ok_own hb).elim
  obtain ⟨x, h1, h2, h3⟩ := ok_py j a ha
  obtain ⟨y, k1, k2, k3⟩ := ok_py k b hb
  have s1 : SeqAt.shaped x = true := by unfold SeqAt.shaped; rw [h2, decide_eq_true (by omega)]; rfl
  have s2 : SeqAt.shaped y = true := by unfold SeqAt.shaped; rw [k2, decide_eq_true (by omega)]; rfl
  show eqD a b = _
  unfold eqD
  rw [sa, sb, h1, k1]
  simp only [s1, s2, Bool.and_self, if_true]
  congr 1
  by_cases e : a = b
  · subst e
    rw [h1] at k1; cases k1
    rw [SeqAt.eqv_refl x h2, decide_eq_true rfl]
  · rw [decide_eq_false e]
    cases q : PyData.eqv x y with
    | false => rfl
    | true => exact absurd (ok_eqv a b j k x y ha hb h1 k1 q) e
open Classical in
theorem ne_ok {a b : D} {j k : Nat} (ha : okD j a = true) (hb : okD k b = true) (hj : j ≤ 64) (hk : k ≤ 64) : cmpD .ne a b = some (!decide (a = b)) := by
  have := eq_ok ha hb hj hk
  show (eqD a b).map _ = _
  have e : eqD a b = some (decide (a = b)) := this
  rw [e]; rfl
theorem eq_same {a : D} {k : Nat} (ha : okD k a = true) (hk : k ≤ 64) : cmpD .eq a a = some true := by rw [eq_ok ha ha hk hk]; simp
theorem eq_diff {a b : D} {j k : Nat} (ha : okD j a = true) (hb : okD k b = true) (hj : j ≤ 64) (hk : k ≤ 64) (h : a ≠ b) : cmpD .eq a b = some false := by rw [eq_ok ha hb hj hk]; simp [h]
theorem ne_same {a : D} {k : Nat} (ha : okD k a = true) (hk : k ≤ 64) : cmpD .ne a a = some false := by rw [ne_ok ha ha hk hk]; simp
theorem ne_diff {a b : D} {j k : Nat} (ha : okD j a = true) (hb : okD k b = true) (hj : j ≤ 64) (hk : k ≤ 64) (h : a ≠ b) : cmpD .ne a b = some true := by rw [ne_ok ha hb hj hk]; simp [h]
theorem okDs_of {k : Nat} {ds : List D} (h : ∀ d ∈ ds, okD k d = true) : okDs k ds = true := by
  induction ds with
  | nil => rfl
  | cons d ds ih =>
    unfold okDs
    rw [h d (List.mem_cons_self ..), ih fun e he => h e (List.mem_cons_of_mem _ he)]; rfl
theorem ok_fr (q : Rat) (k : Nat) : okD (k + 1) (fr q) = true := by simp [fr, okD, okDs]
theorem fr_inj {a b : Rat} (h : fr a = fr b) : a = b := by
  simp only [fr, D.tup.injEq, List.cons.injEq, D.int.injEq, and_true] at h
  exact Rat.ext h.1 (by omega)
@[simp] theorem fr_eq (a b : Rat) : (fr a = fr b) = (a = b) := propext ⟨fr_inj, fun e => e ▸ rfl⟩
end MP

/-! runs of settle and worth_of. -/
namespace MP
open PySem L2
def settleBody (re le jo : Nat) : Ss := (.cons (.set 4 (.comp (.tup (.cons (.ite (.cmp .eq (.slot 6) (.slot 3)) (.cint 1) (.cint 0)) (.cons (.cint 1) .nil))) [6] (.rng1 (.prim .len (.cons (.slot 0) .nil))) .nil [6])) (.cons (.set 5 (.call re (.cons (.slot 2) (.cons (.tup (.cons (.prim .list (.cons (.idx (.idx (.slot 0) (.slot 3)) (.cint 0)) .nil)) (.cons (.idx (.idx (.slot 0) (.slot 3)) (.cint 1)) (.cons (.slot 4) .nil)))) .nil)) [])) (.cons (.ifS (.cmp .isnot (.call le (.cons (.slot 5) .nil) []) .cnon) (.cons (.set 2 (.call jo (.cons (.slot 2) (.cons (.slot 5) .nil)) [])) .nil) (.cons (.ifS (.cmp .ne (.idx (.idx (.slot 5) (.cint 1)) (.cint 0)) (.cint 0)) (.cons (.ret (.tup (.cons (.cstr "conflict") (.cons (.comp (.slot 6) [6] (.rng1 (.prim .len (.cons (.slot 0) .nil))) (.cons (.cmp .ne (.idx (.idx (.idx (.slot 5) (.cint 2)) (.slot 6)) (.cint 0)) (.cint 0)) .nil) [6]) .nil)))) .nil) .nil) .nil)) .nil)))
def settleFd (re le jo : Nat) : Fd := ⟨2, 7, (.cons (.set 2 (.lst .nil)) (.cons (.forS [3] (.rng1 (.prim .len (.cons (.slot 0) .nil))) (settleBody re le jo)) (.cons (.ret (.tup (.cons (.cstr "kept") (.cons (.slot 2) .nil)))) .nil)))⟩
def worthFd (le : Nat) : Fd := ⟨2, 4, (.cons (.forS [2] (.seq (.slot 0)) (.cons (.ifS (.and (.cons (.cmp .eq (.call le (.cons (.slot 2) .nil) []) (.slot 1)) (.cons (.cmp .eq (.comp (.slot 3) [3] (.rng1 (.prim .len (.cons (.idx (.slot 2) (.cint 0)) .nil))) (.cons (.cmp .ne (.idx (.idx (.idx (.slot 2) (.cint 0)) (.slot 3)) (.cint 0)) (.cint 0)) .nil) [3]) (.lst (.cons (.slot 1) .nil))) .nil))) (.cons (.ret (.idx (.slot 2) (.cint 1))) .nil) .nil) .nil)) (.cons (.ret .cnon) .nil))⟩
/-- an equation: coefficients and bound -/
structure Eqn where
  c : List Rat
  b : Rat
def eqnD (e : Eqn) : D := .tup [frs e.c, fr e.b]
@[simp] theorem pure_eqnD (r : Eqn) : pure? (eqnD r) = some (eqnD r) := id rfl
@[simp] theorem ix_eqnD0 (r : Eqn) : ixD (eqnD r) (.int 0) = some (frs r.c) := id (ix_t0 ..)
@[simp] theorem ix_eqnD1 (r : Eqn) : ixD (eqnD r) (.int 1) = some (fr r.b) := id (ix_t1 ..)
@[simp] theorem lst_frs (c : List Rat) : lst? (frs c) = some (c.map fr) := id rfl
def unitR (n k : Nat) : List Rat := (List.range n).map fun at_ => if at_ = k then 1 else 0
theorem opt_isnot (o : Option Nat) : cmpD .isnot (optD o) .non = some o.isSome := by cases o <;> rfl
@[simp] theorem pure_optD (o : Option Nat) : pure? (optD o) = some (optD o) := by cases o <;> rfl
section
variable {tab : List Fd} {wf : Nat}
theorem unit_comp {Φ : Nat → List D → Option D} {n k : Nat} (hn : n ≤ line) {ρ : Rho} {a : E} {j : Nat} (ha : evE Φ a ρ = some (.int (n : Int))) (hk : ρ[k]? = some (.val (.int (j : Int)))) {s : Nat} (hs : s < ρ.length) (hsk : s ≠ k) :
    evE Φ (.comp (.tup (.cons (.ite (.cmp .eq (.slot s) (.slot k)) (.cint 1) (.cint 0)) (.cons (.cint 1) .nil))) [s] (.rng1 a) .nil [s]) ρ = some (frs (unitR n j)) := by
  have h2 : (2 : Nat) ≤ line := by decide
  rw [comp_range (n := n) (g := fun i => fr (if i = j then 1 else 0)) ha hn]
  · simp [frs, unitR]
  · intro i hi
    have e1 : (ρ.set s (.val (.int (i : Int))))[s]? = some (.val (.int (i : Int))) := by simp [hs]
    have e2 : (ρ.set s (.val (.int (i : Int))))[k]? = some (.val (.int (j : Int))) := by rw [List.getElem?_set_ne hsk, hk]
    by_cases e : i = j
    · subst e
      simp [e1, e2, h2]; rfl
    · have : ¬ (i : Int) = (j : Int) := by omega
      have d : decide ((i : Int) = (j : Int)) = false := decide_eq_false this
      simp [e1, e2, h2, e, d]; rfl
/-- what settle needs of each turn -/
structure Turn (w n : Nat) (Inv : Nat → List Row → Prop) (rows : List Eqn) : Prop where
  nl : n = rows.length
  red : ∀ k kept e, rows[k]? = some e → Inv k kept → OkRed w n kept ⟨e.c, e.b, unitR n k⟩
  sz : ∀ k kept e, rows[k]? = some e → Inv k kept → RSz w n 1200 (redR kept ⟨e.c, e.b, unitR n k⟩)
  yes : ∀ k kept e l, rows[k]? = some e → Inv k kept → lead (redR kept ⟨e.c, e.b, unitR n k⟩).c = some l →
    RSz w n 1200 (divd (redR kept ⟨e.c, e.b, unitR n k⟩) (gD (redR kept ⟨e.c, e.b, unitR n k⟩).c l)) ∧ (∀ o ∈ kept, RSz w n 1200 o) ∧ kept.length < line ∧ Inv (k + 1) (joinR kept (redR kept ⟨e.c, e.b, unitR n k⟩))
  no : ∀ k kept e, rows[k]? = some e → Inv k kept → lead (redR kept ⟨e.c, e.b, unitR n k⟩).c = none → (redR kept ⟨e.c, e.b, unitR n k⟩).b = 0 ∧ Inv (k + 1) kept
theorem settle_turn {re le jo n w k N : Nat} {Inv : Nat → List Row → Prop} {rows : List Eqn} {M : D} (hw : w ≤ line) (hm : n ≤ line)
    (hre : ∀ (kept : List Row) (r : Row), OkRed w n kept r → run tab wf N re [.lst (kept.map rowD), rowD r] = some (rowD (redR kept r)))
    (hle : ∀ (r : Row), RSz w n 1200 r → run tab wf N le [rowD r] = some (optD (lead r.c)))
    (hjo : ∀ (kept : List Row) (r : Row) (l : Nat), lead r.c = some l → RSz w n 1200 r → RSz w n 1200 (divd r (gD r.c l)) → (∀ o ∈ kept, RSz w n 1200 o) → kept.length < line → run tab wf N jo [.lst (kept.map rowD), rowD r] = some (.lst ((joinR kept r).map rowD)))
    (hT : Turn w n Inv rows) {kept : List Row} (hk : k < n) (hI : Inv k kept) (x y z u : SV) :
    ∃ kept' x' y' z', Inv (k + 1) kept' ∧ stepF (run tab wf N) wf [3] (settleBody re le jo) (.int (k : Int)) [.val (.lst (rows.map eqnD)), .val M, .val (.lst (kept.map rowD)), x, y, z, u] =
      some (.nx [.val (.lst (rows.map eqnD)), .val M, .val (.lst (kept'.map rowD)), x', y', z', u]) := by
  obtain ⟨e, he⟩ : ∃ e, rows[k]? = some e := ⟨rows[k]'(by rw [← hT.nl]; exact hk), List.getElem?_eq_getElem _⟩
  have h3 : (3 : Nat) ≤ line := by decide
  have hix : ixD (.lst (rows.map eqnD)) (.int (k : Int)) = some (eqnD e) := ix_lst (by rw [List.getElem?_map, he]; rfl)
  have hr := hre kept _ (hT.red k kept e he hI)
  have hs := hT.sz k kept e he hI
  have hu : evE (run tab wf N) (.comp (.tup (.cons (.ite (.cmp .eq (.slot 6) (.slot 3)) (.cint 1) (.cint 0)) (.cons (.cint 1) .nil))) [6] (.rng1 (.prim .len (.cons (.slot 0) .nil))) .nil [6])
      [.val (.lst (rows.map eqnD)), .val M, .val (.lst (kept.map rowD)), .val (.int (k : Int)), y, z, u] = some (frs (unitR n k)) :=
    unit_comp hm (by simp [hT.nl]) rfl (by simp) (by decide)
  have hr' : run tab wf N re [.lst (kept.map rowD), .tup [.lst (e.c.map fr), fr e.b, frs (unitR n k)]] = some (rowD (redR kept ⟨e.c, e.b, unitR n k⟩)) := hr
  have hl := hle _ hs
  generalize hR : redR kept ⟨e.c, e.b, unitR n k⟩ = R at hr' hl hs
  cases hc : lead R.c with
  | none =>
    have hn := hT.no k kept e he hI (by rw [hR]; exact hc)
    rw [hR] at hn
    refine ⟨kept, .val (.int (k : Int)), .val (frs (unitR n k)), .val (rowD R), hn.2, ?_⟩
    simp [stepF, settleBody, hu, hix, hr', h3, hl, opt_isnot, hc, hn.1]
  | some l =>
    have hy := hT.yes k kept e l he hI (by rw [hR]; exact hc)
    rw [hR] at hy
    have hj := hjo kept R l hc hs hy.1 hy.2.1 hy.2.2.1
    refine ⟨joinR kept R, .val (.int (k : Int)), .val (frs (unitR n k)), .val (rowD R), hy.2.2.2, ?_⟩
    simp [stepF, settleBody, hu, hix, hr', h3, hl, opt_isnot, hc, hj]
theorem run_settle {t re le jo n w N : Nat} {Inv : Nat → List Row → Prop} {rows : List Eqn} {M : D} (ht : tab[t]? = some (settleFd re le jo)) (hw : w ≤ line) (hm : n ≤ line)
    (hre : ∀ (kept : List Row) (r : Row), OkRed w n kept r → run tab wf N re [.lst (kept.map rowD), rowD r] = some (rowD (redR kept r)))
    (hle : ∀ (r : Row), RSz w n 1200 r → run tab wf N le [rowD r] = some (optD (lead r.c)))
    (hjo : ∀ (kept : List Row) (r : Row) (l : Nat), lead r.c = some l → RSz w n 1200 r → RSz w n 1200 (divd r (gD r.c l)) → (∀ o ∈ kept, RSz w n 1200 o) → kept.length < line → run tab wf N jo [.lst (kept.map rowD), rowD r] = some (.lst ((joinR kept r).map rowD)))
    (hT : Turn w n Inv rows) (h0 : Inv 0 []) :
    ∃ kept, Inv n kept ∧ run tab wf (N + 1) t [.lst (rows.map eqnD), M] = some (.tup [.str "kept", .lst (kept.map rowD)]) := by
  have loop : ∀ (m k : Nat) (kept : List Row) (x y z u : SV), k + m = n → Inv k kept → ∃ kept' x' y' z', Inv n kept' ∧
      forM (stepF (run tab wf N) wf [3] (settleBody re le jo)) ((List.range' k m).map fun (i : Nat) => D.int (i : Int)) [.val (.lst (rows.map eqnD)), .val M, .val (.lst (kept.map rowD)), x, y, z, u] =
      some (.nx [.val (.lst (rows.map eqnD)), .val M, .val (.lst (kept'.map rowD)), x', y', z', u]) := by
    intro m
    induction m with
    | zero => intro k kept x y z u e hI; exact ⟨kept, x, y, z, by rw [← e]; exact hI, rfl⟩
    | succ m ih =>
      intro k kept x y z u e hI
      obtain ⟨kept', x', y', z', hI', hs⟩ := settle_turn (wf := wf) (M := M) hw hm hre hle hjo hT (by omega : k < n) hI x y z u
      have hl : (List.range' k (m + 1)).map (fun (i : Nat) => D.int (i : Int)) = .int (k : Int) :: (List.range' (k + 1) m).map fun (i : Nat) => D.int (i : Int) := rfl
      rw [hl, forM_cons, hs]
      exact ih (k + 1) kept' x' y' z' u (by omega) hI'
  obtain ⟨kept, x', y', z', hI, hs⟩ := loop n 0 [] .non .non .non .non (by omega) h0
  refine ⟨kept, hI, ?_⟩
  have hk := okRng_nat (n := rows.length) (by rw [← hT.nl]; exact hm)
  have e : rng 0 (rows.length : Int) = (List.range' 0 n).map fun (k : Nat) => D.int (k : Int) := by rw [rng_nat, List.range_eq_range', hT.nl]
  have h2 : (2 : Nat) ≤ line := by decide
  have h0' : (0 : Nat) ≤ line := Nat.zero_le _
  rw [List.map_nil] at hs
  refine run_rt [.val (.lst (rows.map eqnD)), .val M, .non, .non, .non, .non, .non] ht rfl rfl ?_
  simp [settleFd, evS_forF, hk, e, hs, h2, h0']
theorem opt_eq (o : Option Nat) (a : Nat) : cmpD .eq (optD o) (.int (a : Int)) = some (decide (o = some a)) := by
  cases o with
  | none => rw [show optD none = D.non from rfl, eq_ok (j := 0) (k := 0) (by rfl) (by rfl) (by decide) (by decide)]; simp
  | some l => rw [show optD (some l) = D.int (l : Int) from rfl, cmp_eqI]; congr 1; simp; omega
theorem nats_eq (xs ys : List Nat) : cmpD .eq (.lst (xs.map fun (k : Nat) => D.int (k : Int))) (.lst (ys.map fun (k : Nat) => D.int (k : Int))) = some (decide (xs = ys)) := by
  have ok : ∀ zs : List Nat, okD 1 (.lst (zs.map fun (k : Nat) => D.int (k : Int))) = true := by
    intro zs
    show okDs 0 _ = true
    refine okDs_of fun d hd => ?_
    obtain ⟨k, _, rfl⟩ := List.mem_map.mp hd
    rfl
  have inj : ∀ xs ys : List Nat, xs.map (fun (k : Nat) => D.int (k : Int)) = ys.map (fun (k : Nat) => D.int (k : Int)) → xs = ys := by
    intro xs
    induction xs with
    | nil => intro ys h; cases ys with | nil => rfl | cons y ys => simp at h
    | cons x xs ih =>
      intro ys h
      cases ys with
      | nil => simp at h
      | cons y ys =>
        simp at h
        have : x = y := by omega
        rw [ih ys h.2, this]
  by_cases e : xs = ys
  · subst e; rw [eq_same (ok xs) (by decide)]; simp
  · rw [decide_eq_false e, eq_diff (ok xs) (ok ys) (by decide) (by decide) fun h => e (inj xs ys (D.lst.inj h))]
def isUnit (w a : Nat) (r : Row) : Bool := decide (lead r.c = some a) && decide ((List.range w).filter (fun k => decide (gD r.c k ≠ 0)) = [a])
def worthR (w : Nat) (kept : List Row) (a : Nat) : D := match kept.find? (isUnit w a) with | some r => fr r.b | none => .non
def worthBody (le : Nat) : Ss := (.cons (.ifS (.and (.cons (.cmp .eq (.call le (.cons (.slot 2) .nil) []) (.slot 1)) (.cons (.cmp .eq (.comp (.slot 3) [3] (.rng1 (.prim .len (.cons (.idx (.slot 2) (.cint 0)) .nil))) (.cons (.cmp .ne (.idx (.idx (.idx (.slot 2) (.cint 0)) (.slot 3)) (.cint 0)) (.cint 0)) .nil) [3]) (.lst (.cons (.slot 1) .nil))) .nil))) (.cons (.ret (.idx (.slot 2) (.cint 1))) .nil) .nil) .nil)
theorem worth_turn {le w m N : Nat} (hw : w ≤ line)
    (hle : ∀ (r : Row), RSz w m 1200 r → run tab wf N le [rowD r] = some (optD (lead r.c))) {r : Row} (hr : RSz w m 1200 r) (a : Nat) (K : D) (v : SV) :
    stepF (run tab wf N) wf [2] (worthBody le) (rowD r) [.val K, .val (.int (a : Int)), v, .non] = some (if isUnit w a r then .rt (fr r.b) else .nx [.val K, .val (.int (a : Int)), .val (rowD r), .non]) := by
  have h1 := hle r hr
  have hlen := hr.lc
  have h2 : evE (run tab wf N) (.comp (.slot 3) [3] (.rng1 (.prim .len (.cons (.idx (.slot 2) (.cint 0)) .nil))) (.cons (.cmp .ne (.idx (.idx (.idx (.slot 2) (.cint 0)) (.slot 3)) (.cint 0)) (.cint 0)) .nil) [3]) [.val K, .val (.int (a : Int)), .val (rowD r), .non]
      = some (.lst (((List.range w).filter (fun k => decide (gD r.c k ≠ 0))).map fun (k : Nat) => D.int (k : Int))) := by
    refine comp_range_if (by simp [hlen]) hw (fun k hk => ?_) (fun k hk _ => by simp)
    have hk' : k < r.c.length := by rw [hlen]; exact hk
    simp [ix_frs' hk', Rat.num_eq_zero]
  have h3 : (1 : Nat) ≤ line := by decide
  have h4 : D.lst [D.int (a : Int)] = D.lst ([a].map fun (k : Nat) => D.int (k : Int)) := rfl
  have h5 := nats_eq ((List.range w).filter (fun k => decide (gD r.c k ≠ 0))) [a]
  rw [← h4] at h5
  unfold isUnit
  generalize (List.range w).filter (fun k => decide (gD r.c k ≠ 0)) = F at h2 h5 ⊢
  by_cases c1 : lead r.c = some a
  · have c1' : decide (lead r.c = some a) = true := decide_eq_true c1
    rw [c1', Bool.true_and]
    by_cases c2 : F = [a]
    · rw [decide_eq_true c2] at h5 ⊢
      have h6 := opt_eq (lead r.c) a
      rw [c1'] at h6
      simp [stepF, worthBody, h1, h6, h2, h3, h5]
    · rw [decide_eq_false c2] at h5 ⊢
      have h6 := opt_eq (lead r.c) a
      rw [c1'] at h6
      simp [stepF, worthBody, h1, h6, h2, h3, h5]
  · have c1' : decide (lead r.c = some a) = false := decide_eq_false c1
    have h6 := opt_eq (lead r.c) a
    rw [c1'] at h6 ⊢
    simp [stepF, worthBody, h1, h6]
theorem run_worth {t le w m N : Nat} (ht : tab[t]? = some (worthFd le)) (hw : w ≤ line)
    (hle : ∀ (r : Row), RSz w m 1200 r → run tab wf N le [rowD r] = some (optD (lead r.c))) {kept : List Row} (hk : ∀ o ∈ kept, RSz w m 1200 o) (a : Nat) :
    run tab wf (N + 1) t [.lst (kept.map rowD), .int (a : Int)] = some (worthR w kept a) := by
  have loop : ∀ (os : List Row) (K : D) (v : SV), (∀ o ∈ os, RSz w m 1200 o) →
      (∀ r, os.find? (isUnit w a) = some r → forM (stepF (run tab wf N) wf [2] (worthBody le)) (os.map rowD) [.val K, .val (.int (a : Int)), v, .non] = some (.rt (fr r.b))) ∧
      (os.find? (isUnit w a) = none → ∃ v', forM (stepF (run tab wf N) wf [2] (worthBody le)) (os.map rowD) [.val K, .val (.int (a : Int)), v, .non] = some (.nx [.val K, .val (.int (a : Int)), v', .non])) := by
    intro os
    induction os with
    | nil => intro K v _; exact ⟨fun r h => by simp at h, fun _ => ⟨v, rfl⟩⟩
    | cons o os ih =>
      intro K v h
      have hs := worth_turn (wf := wf) hw hle (h o (List.mem_cons_self ..)) a K v
      rw [List.map_cons, forM_cons, hs, List.find?_cons]
      cases hu : isUnit w a o with
      | true => exact ⟨fun r hr => by cases hr; rfl, fun hr => by cases hr⟩
      | false => exact ih K _ fun x hx => h x (List.mem_cons_of_mem _ hx)
  have h := loop kept (.lst (kept.map rowD)) .non hk
  unfold worthR
  have hb : (worthFd le).body = .cons (.forS [2] (.seq (.slot 0)) (worthBody le)) (.cons (.ret .cnon) .nil) := rfl
  cases hf : kept.find? (isUnit w a) with
  | none =>
    obtain ⟨v', h'⟩ := h.2 hf
    refine run_rt [.val (.lst (kept.map rowD)), .val (.int (a : Int)), .non, .non] ht rfl rfl ?_
    rw [hb]
    simp [evS_forF, lst?, h']
  | some r =>
    have h' := h.1 r hf
    refine run_rt [.val (.lst (kept.map rowD)), .val (.int (a : Int)), .non, .non] ht rfl rfl ?_
    rw [hb]
    simp [evS_forF, lst?, h']
end
end MP

/-! spans over the rationals: no program in sight. -/
namespace MP
abbrev Vec := Nat → Rat
inductive Span (S : Vec → Prop) : Vec → Prop
  | zero : Span S (fun _ => 0)
  | step {v r : Vec} (a : Rat) : S r → Span S v → Span S (fun i => v i + a * r i)
namespace Span
variable {S T : Vec → Prop} {u v : Vec}
theorem cast (h : Span S u) (e : ∀ i, u i = v i) : Span S v := by rw [← funext e]; exact h
theorem of (h : S v) : Span S v := (step 1 h zero).cast fun i => by grind
theorem add (hu : Span S u) (hv : Span S v) : Span S (fun i => u i + v i) := by
  induction hu with
  | zero => exact hv.cast fun i => by grind
  | step a hr _ ih => exact (step a hr ih).cast fun i => by grind
theorem smul (b : Rat) (hv : Span S v) : Span S (fun i => b * v i) := by
  induction hv with
  | zero => exact zero.cast fun i => by grind
  | step a hr _ ih => exact (step (b * a) hr ih).cast fun i => by grind
theorem sub (hu : Span S u) (b : Rat) (hv : Span S v) : Span S (fun i => u i - b * v i) :=
  (hu.add (hv.smul (-b))).cast fun i => by grind
theorem le (h : ∀ r, S r → Span T r) (hv : Span S v) : Span T v := by
  induction hv with
  | zero => exact zero
  | step a hr _ ih => exact (ih.add ((h _ hr).smul a)).cast fun i => by grind
/-- a linear property of all -/
theorem lin {P : Vec → Prop} (h0 : P fun _ => 0) (hs : ∀ v r a, P v → S r → P fun i => v i + a * r i) (hv : Span S v) : P v := by
  induction hv with
  | zero => exact h0
  | step a hr _ ih => exact hs _ _ a ih hr
theorem vanish {k : Nat} (h : ∀ r, S r → r k = 0) (hv : Span S v) : v k = 0 := by
  induction hv with
  | zero => rfl
  | @step v r a hr _ ih =>
    show v k + a * r k = 0
    rw [ih, h _ hr]; grind
end Span
/-! ### counting leading places -/
/-- v is zero before c and not at c -/
def LeadsAt (v : Vec) (c : Nat) : Prop := (∀ i, i < c → v i = 0) ∧ v c ≠ 0
def Piv (V : Vec → Prop) (c : Nat) : Prop := ∃ v, V v ∧ LeadsAt v c
open Classical in
noncomputable def cnt (V : Vec → Prop) : Nat → Nat
  | 0 => 0
  | c + 1 => cnt V c + if Piv V c then 1 else 0
open Classical in
theorem cnt_le {V W : Vec → Prop} (h : ∀ v, V v → W v) : ∀ w, cnt V w ≤ cnt W w
  | 0 => Nat.le_refl _
  | w + 1 => by
    have := cnt_le h w
    unfold cnt
    by_cases hp : Piv V w
    · have : Piv W w := hp.elim fun v hv => ⟨v, h v hv.1, hv.2⟩
      rw [if_pos hp, if_pos this]; omega
    · rw [if_neg hp]; omega
open Classical in
theorem cnt_eq {V W : Vec → Prop} (h : ∀ v, V v → W v) : ∀ w, cnt V w = cnt W w → ∀ c, c < w → Piv W c → Piv V c
  | 0, _, c, hc, _ => absurd hc (Nat.not_lt_zero _)
  | w + 1, e, c, hc, hp => by
    have l := cnt_le h w
    unfold cnt at e
    have l2 : (if Piv V w then 1 else 0) ≤ if Piv W w then 1 else 0 := by
      by_cases hv : Piv V w
      · have : Piv W w := hv.elim fun v hv => ⟨v, h v hv.1, hv.2⟩
        rw [if_pos hv, if_pos this]; exact Nat.le_refl _
      · rw [if_neg hv]; exact Nat.zero_le _
    rcases Nat.lt_succ_iff_lt_or_eq.mp hc with hlt | rfl
    · exact cnt_eq h w (by omega) c hlt hp
    · by_cases hv : Piv V c
      · exact hv
      · rw [if_neg hv, if_pos hp] at e; omega
theorem cnt_congr {V W : Vec → Prop} (h : ∀ v, V v ↔ W v) (w : Nat) : cnt V w = cnt W w :=
  Nat.le_antisymm (cnt_le (fun v => (h v).mp) w) (cnt_le (fun v => (h v).mpr) w)
/-- equal counts: what the greater span holds the lesser holds -/
theorem span_of_cnt {S T : Vec → Prop} {w : Nat} (h : ∀ v, Span S v → Span T v) (hw : ∀ r, T r → ∀ i, w ≤ i → r i = 0) (e : cnt (Span S) w = cnt (Span T) w) :
    ∀ v, Span T v → Span S v := by
  have key : ∀ m c, c + m = w → ∀ v, Span T v → (∀ i, i < c → v i = 0) → Span S v := by
    intro m
    induction m with
    | zero =>
      intro c hc v hv hz
      refine Span.zero.cast fun i => ?_
      by_cases hi : i < c
      · exact (hz i hi).symm
      · exact (hv.vanish (k := i) fun r hr => hw r hr i (by omega)).symm
    | succ m ih =>
      intro c hc v hv hz
      by_cases h0 : v c = 0
      · exact ih (c + 1) (by omega) v hv fun i hi => by
          rcases Nat.lt_succ_iff_lt_or_eq.mp hi with hlt | rfl
          · exact hz i hlt
          · exact h0
      · obtain ⟨u, hu, hul⟩ := cnt_eq h w e c (by omega) ⟨v, hv, hz, h0⟩
        have h1 := ih (c + 1) (by omega) (fun i => v i - (v c / u c) * u i) (hv.sub _ (h u hu)) fun i hi => by
          rcases Nat.lt_succ_iff_lt_or_eq.mp hi with hlt | rfl
          · rw [hz i hlt, hul.1 i hlt]; grind
          · have := hul.2
            rw [Rat.div_mul_cancel this]; grind
        exact (h1.add (hu.smul (v c / u c))).cast fun i => by grind
  exact fun v hv => key w 0 (by omega) v hv fun i hi => absurd hi (Nat.not_lt_zero _)
/-- one more row leaves the count if and only if it lies in the span -/
theorem cnt_iff {S : Vec → Prop} {w : Nat} {u : Vec} (hS : ∀ r, S r → ∀ i, w ≤ i → r i = 0) (hu : ∀ i, w ≤ i → u i = 0) :
    cnt (Span fun r => S r ∨ r = u) w = cnt (Span S) w ↔ Span S u := by
  have h : ∀ v, Span S v → Span (fun r => S r ∨ r = u) v := fun v hv => hv.le fun r hr => .of (.inl hr)
  constructor
  · intro e
    exact span_of_cnt h (fun r hr => hr.elim (hS r) fun e => e ▸ hu) e.symm u (.of (.inr rfl))
  · intro hm
    refine cnt_congr (fun v => ⟨fun hv => hv.le fun r hr => ?_, h v⟩) w
    exact hr.elim .of fun e => e ▸ hm
end MP

/-! elimination counts the leading places of the span. -/
namespace MP
theorem gD_range {w : Nat} {f : Nat → Rat} {i : Nat} (h : i < w) : gD ((List.range w).map f) i = f i := by
  rw [gD_lt (by simpa using h)]; simp
theorem gD_past {c : List Rat} {i : Nat} (h : c.length ≤ i) : gD c i = 0 := by
  unfold gD
  rw [List.getD_eq_getElem?_getD, List.getElem?_eq_none h]; rfl
def pick (c : Nat) : List (List Rat) → Option (List Rat × List (List Rat))
  | [] => none
  | x :: xs => if gD x c ≠ 0 then some (x, xs) else match pick c xs with | some (r, ys) => some (r, x :: ys) | none => none
def clear (w c : Nat) (r x : List Rat) : List Rat := (List.range w).map fun k => gD x k + -(gD x c / gD r c) * gD r k
def rankF (w : Nat) : Nat → Nat → List (List Rat) → Nat
  | 0, _, _ => 0
  | m + 1, c, rest => match pick c rest with
    | none => rankF w m (c + 1) rest
    | some (r, ys) => rankF w m (c + 1) (ys.map (clear w c r)) + 1
def rowsS (rest : List (List Rat)) : Vec → Prop := fun v => ∃ x ∈ rest, v = gD x
theorem pick_none {c : Nat} : ∀ {rest : List (List Rat)}, pick c rest = none → ∀ x ∈ rest, gD x c = 0
  | [], _, x, hx => absurd hx (by simp)
  | y :: ys, h, x, hx => by
    unfold pick at h
    by_cases hy : gD y c ≠ 0
    · rw [if_pos hy] at h; cases h
    · rw [if_neg hy] at h
      cases hp : pick c ys with
      | none =>
        rcases List.mem_cons.mp hx with rfl | hx
        · simpa using hy
        · exact pick_none hp x hx
      | some q => rw [hp] at h; cases h
theorem pick_some {c : Nat} : ∀ {rest : List (List Rat)} {r : List Rat} {ys : List (List Rat)}, pick c rest = some (r, ys) → gD r c ≠ 0 ∧ ∀ x, x ∈ rest ↔ x = r ∨ x ∈ ys
  | [], _, _, h => by cases h
  | y :: zs, r, ys, h => by
    unfold pick at h
    by_cases hy : gD y c ≠ 0
    · rw [if_pos hy] at h; cases h
      exact ⟨hy, fun x => List.mem_cons⟩
    · rw [if_neg hy] at h
      cases hp : pick c zs with
      | none => rw [hp] at h; cases h
      | some q =>
        obtain ⟨q, us⟩ := q
        rw [hp] at h; cases h
        obtain ⟨h1, h2⟩ := pick_some hp
        refine ⟨h1, fun x => ?_⟩
        rw [List.mem_cons, List.mem_cons, h2 x]
        constructor
        · rintro (h | h | h) <;> simp [h]
        · rintro (h | h | h) <;> simp [h]
theorem clear_at {w c : Nat} {r x : List Rat} (hr : r.length = w) (hx : x.length = w) (i : Nat) : gD (clear w c r x) i = gD x i + -(gD x c / gD r c) * gD r i := by
  by_cases h : i < w
  · exact gD_range h
  · rw [gD_past (c := clear w c r x) (i := i) (by simp [clear]; omega), gD_past (c := x) (i := i) (by omega), gD_past (c := r) (i := i) (by omega)]; grind
theorem rank_count {V : Vec → Prop} {w : Nat} : ∀ (m c : Nat) (rest : List (List Rat)), (∀ x ∈ rest, x.length = w) → (∀ x ∈ rest, ∀ i, i < c → gD x i = 0) →
    (∀ v, (V v ∧ ∀ i, i < c → v i = 0) ↔ Span (rowsS rest) v) → cnt V c + rankF w m c rest = cnt V (c + m) := by
  intro m
  induction m with
  | zero => intro c rest _ _ _; rfl
  | succ m ih =>
    intro c rest hl hz hV
    have e : c + (m + 1) = (c + 1) + m := by omega
    rw [e]
    unfold rankF
    cases hp : pick c rest with
    | none =>
      have h0 := pick_none hp
      have hn : ¬ Piv V c := by
        rintro ⟨v, hv, hb, hc⟩
        exact hc (((hV v).mp ⟨hv, hb⟩).vanish (k := c) fun r ⟨x, hx, e⟩ => e ▸ h0 x hx)
      have hc : cnt V (c + 1) = cnt V c := by show cnt V c + _ = _; rw [if_neg hn]; rfl
      rw [← hc]
      refine ih (c + 1) rest hl (fun x hx i hi => ?_) fun v => ?_
      · rcases Nat.lt_succ_iff_lt_or_eq.mp hi with h | rfl
        · exact hz x hx i h
        · exact h0 x hx
      · rw [← hV v]
        constructor
        · exact fun ⟨h1, h2⟩ => ⟨h1, fun i hi => h2 i (by omega)⟩
        · refine fun ⟨h1, h2⟩ => ⟨h1, fun i hi => ?_⟩
          rcases Nat.lt_succ_iff_lt_or_eq.mp hi with h | rfl
          · exact h2 i h
          · exact ((hV v).mp ⟨h1, h2⟩).vanish fun r ⟨x, hx, e⟩ => e ▸ h0 x hx
    | some q =>
      obtain ⟨r, ys⟩ := q
      obtain ⟨hr0, hmem⟩ := pick_some hp
      have hrm : r ∈ rest := (hmem r).mpr (.inl rfl)
      have hym : ∀ x ∈ ys, x ∈ rest := fun x hx => (hmem x).mpr (.inr hx)
      have hrV := (hV (gD r)).mpr (.of ⟨r, hrm, rfl⟩)
      have hy : Piv V c := ⟨gD r, hrV.1, hrV.2, hr0⟩
      have hc : cnt V (c + 1) = cnt V c + 1 := by show cnt V c + _ = _; rw [if_pos hy]
      have hcl : ∀ x ∈ ys, ∀ i, gD (clear w c r x) i = gD x i + -(gD x c / gD r c) * gD r i := fun x hx i => clear_at (hl r hrm) (hl x (hym x hx)) i
      have h0 : ∀ x ∈ ys, gD (clear w c r x) c = 0 := fun x hx => by
        rw [hcl x hx c]
        have := Rat.div_mul_cancel (a := gD x c) hr0
        grind
      show cnt V c + (rankF w m (c + 1) (ys.map (clear w c r)) + 1) = _
      have : cnt V c + (rankF w m (c + 1) (ys.map (clear w c r)) + 1) = cnt V (c + 1) + rankF w m (c + 1) (ys.map (clear w c r)) := by omega
      rw [this]
      refine ih (c + 1) _ (fun x hx => ?_) (fun x hx i hi => ?_) fun v => ?_
      · obtain ⟨z, hz', rfl⟩ := List.mem_map.mp hx
        simp [clear]
      · obtain ⟨z, hz', rfl⟩ := List.mem_map.mp hx
        rcases Nat.lt_succ_iff_lt_or_eq.mp hi with h | rfl
        · rw [hcl z hz' i, hz z (hym z hz') i h, hz r hrm i h]; grind
        · exact h0 z hz'
      · have z0 : ∀ s, Span (rowsS (ys.map (clear w c r))) s → s c = 0 := fun s hs => hs.vanish fun q ⟨x, hx, e⟩ => by
          obtain ⟨z, hz', rfl⟩ := List.mem_map.mp hx
          rw [e]; exact h0 z hz'
        have back : ∀ s, Span (rowsS (ys.map (clear w c r))) s → Span (rowsS rest) s := fun s hs => hs.le fun q ⟨x, hx, e⟩ => by
          obtain ⟨z, hz', rfl⟩ := List.mem_map.mp hx
          subst e
          exact ((Span.of (S := rowsS rest) ⟨z, hym z hz', rfl⟩).sub (gD z c / gD r c) (.of ⟨r, hrm, rfl⟩)).cast fun i => by rw [hcl z hz' i]; grind
        constructor
        · intro ⟨h1, h2⟩
          have hs := (hV v).mp ⟨h1, fun i hi => h2 i (by omega)⟩
          have ⟨a, ha⟩ : ∃ a : Rat, Span (rowsS (ys.map (clear w c r))) fun i => v i - a * gD r i := by
            refine hs.lin (P := fun v => ∃ a : Rat, Span (rowsS (ys.map (clear w c r))) fun i => v i - a * gD r i) ⟨0, Span.zero.cast fun i => by grind⟩ ?_
            rintro v q b ⟨a, ha⟩ ⟨x, hx, rfl⟩
            rcases (hmem x).mp hx with rfl | hx
            · exact ⟨a + b, ha.cast fun i => by grind⟩
            · refine ⟨a + b * (gD x c / gD r c), (ha.add ((Span.of (S := rowsS (ys.map (clear w c r))) ⟨_, List.mem_map_of_mem hx, rfl⟩).smul b)).cast fun i => ?_⟩
              rw [hcl x hx i]; grind
          have hc0 := z0 _ ha
          have hv0 := h2 c (Nat.lt_succ_self c)
          have ha0 : a = 0 := by
            have : a * gD r c = 0 := by rw [hv0] at hc0; grind
            rcases Rat.mul_eq_zero.mp this with h | h
            · exact h
            · exact absurd h hr0
          exact ha.cast fun i => by rw [ha0]; grind
        · intro hs
          have h3 := (hV v).mpr (back v hs)
          refine ⟨h3.1, fun i hi => ?_⟩
          rcases Nat.lt_succ_iff_lt_or_eq.mp hi with h | rfl
          · exact h3.2 i h
          · exact z0 v hs
theorem rankF_cnt {w : Nat} {rows : List (List Rat)} (hl : ∀ x ∈ rows, x.length = w) : rankF w w 0 rows = cnt (Span (rowsS rows)) w := by
  have := rank_count (V := Span (rowsS rows)) w 0 rows hl (fun x _ i hi => absurd hi (Nat.not_lt_zero _)) fun v => ⟨fun h => h.1, fun h => ⟨h, fun i hi => absurd hi (Nat.not_lt_zero _)⟩⟩
  have e : cnt (Span (rowsS rows)) 0 = 0 := rfl
  rw [e] at this
  simpa using this
/-- one more row leaves the rank if and only if it lies in the span -/
theorem rankF_iff {w : Nat} {rows : List (List Rat)} {u : List Rat} (hl : ∀ x ∈ rows, x.length = w) (hu : u.length = w) :
    rankF w w 0 (rows ++ [u]) = rankF w w 0 rows ↔ Span (rowsS rows) (gD u) := by
  rw [rankF_cnt hl, rankF_cnt (rows := rows ++ [u]) fun x hx => by
    rcases List.mem_append.mp hx with h | h
    · exact hl x h
    · rw [List.mem_singleton.mp h]; exact hu]
  have : rowsS (rows ++ [u]) = fun r => rowsS rows r ∨ r = gD u := by
    funext r
    refine propext ⟨fun ⟨x, hx, e⟩ => ?_, fun h => ?_⟩
    · rcases List.mem_append.mp hx with h | h
      · exact .inl ⟨x, h, e⟩
      · rw [List.mem_singleton.mp h] at e; exact .inr e
    · rcases h with ⟨x, hx, e⟩ | e
      · exact ⟨x, List.mem_append_left _ hx, e⟩
      · exact ⟨u, by simp, e⟩
  rw [this]
  exact cnt_iff (fun r ⟨x, hx, e⟩ i hi => by rw [e]; exact gD_past (by rw [hl x hx]; exact hi)) fun i hi => gD_past (by omega)
end MP

/-! what settle keeps: reduced rows, their sizes, their spans. -/
namespace MP
def dot : Nat → Vec → Vec → Rat
  | 0, _, _ => 0
  | w + 1, x, p => dot w x p + x w * p w
theorem dot_sub (p x y : Vec) (f : Rat) : ∀ w, dot w (fun i => x i - f * y i) p = dot w x p - f * dot w y p
  | 0 => by show (0 : Rat) = 0 - f * 0; grind
  | w + 1 => by
    show dot w (fun i => x i - f * y i) p + (x w - f * y w) * p w = dot w x p + x w * p w - f * (dot w y p + y w * p w)
    rw [dot_sub p x y f w]; grind
theorem dot_div (p x : Vec) (q : Rat) : ∀ w, dot w (fun i => x i / q) p = dot w x p / q
  | 0 => by show (0 : Rat) = 0 / q; grind
  | w + 1 => by
    show dot w (fun i => x i / q) p + x w / q * p w = (dot w x p + x w * p w) / q
    rw [dot_div p x q w]; simp only [Rat.div_def]; grind
theorem dot_zero (p x : Vec) (h : ∀ i, x i = 0) : ∀ w, dot w x p = 0
  | 0 => rfl
  | w + 1 => by
    show dot w x p + x w * p w = 0
    rw [dot_zero p x h w, h w]; grind
/-- q has a numerator up to M over D -/
def In (D M : Nat) (q : Rat) : Prop := ∃ n : Int, q * ((D : Int) : Rat) = n ∧ n.natAbs ≤ M
theorem In.zero (D M : Nat) : In D M 0 := ⟨0, by grind, by simp⟩
theorem In.mono {D M N : Nat} {q : Rat} (h : In D M q) (l : M ≤ N) : In D N q := by
  obtain ⟨n, e, b⟩ := h
  exact ⟨n, e, by omega⟩
theorem In.scale {D M k : Nat} {q : Rat} (h : In D M q) : In (k * D) (k * M) q := by
  obtain ⟨n, e, b⟩ := h
  refine ⟨k * n, ?_, ?_⟩
  · have : (((k * D : Nat) : Int) : Rat) = ((k : Int) : Rat) * ((D : Int) : Rat) := by rw [← Rat.intCast_mul]; rfl
    rw [this, Rat.intCast_mul, ← e]; grind
  · rw [Int.natAbs_mul]; exact Nat.mul_le_mul_left _ b
theorem In.mul {D M E N : Nat} {a b : Rat} (h : In D M a) (h' : In E N b) : In (D * E) (M * N) (a * b) := by
  obtain ⟨n, e, l⟩ := h
  obtain ⟨n', e', l'⟩ := h'
  refine ⟨n * n', ?_, ?_⟩
  · have : (((D * E : Nat) : Int) : Rat) = ((D : Int) : Rat) * ((E : Int) : Rat) := by rw [← Rat.intCast_mul]; rfl
    rw [this, Rat.intCast_mul, ← e, ← e']; grind
  · rw [Int.natAbs_mul]; exact Nat.mul_le_mul l l'
theorem In.sub {D M N : Nat} {a b : Rat} (h : In D M a) (h' : In D N b) : In D (M + N) (a - b) := by
  obtain ⟨n, e, l⟩ := h
  obtain ⟨n', e', l'⟩ := h'
  refine ⟨n - n', ?_, by omega⟩
  rw [Rat.intCast_sub, ← e, ← e']; grind
theorem In.sz {D M k : Nat} {q : Rat} (h : In D M q) (h0 : 0 < D) (hD : D < 2 ^ k) (hM : M < 2 ^ k) : Sz k q := by
  obtain ⟨n, e, l⟩ := h
  refine Sz.of (n := n) (d := (D : Int)) (by omega) e ?_ ?_
  · exact Nat.lt_of_le_of_lt l hM
  · show (D : Int).natAbs < 2 ^ k
    simpa using hD
theorem gD_subV {f : Rat} {x y : List Rat} (h : y.length = x.length) (k : Nat) : gD (subV f x y) k = gD x k - f * gD y k := by
  by_cases hk : k < x.length
  · exact gD_range hk
  · rw [gD_past (c := subV f x y) (i := k) (by simp [subV]; omega), gD_past (c := x) (i := k) (by omega), gD_past (c := y) (i := k) (by omega)]; grind
theorem gD_map_div {q : Rat} {x : List Rat} (k : Nat) : gD (x.map (· / q)) k = gD x k / q := by
  by_cases hk : k < x.length
  · rw [gD_lt (by simpa using hk), gD_lt hk]; simp
  · rw [gD_past (c := x.map (· / q)) (i := k) (by simp; omega), gD_past (c := x) (i := k) (by omega)]; simp only [Rat.div_def]; grind
/-- a row of good shape, its parts over D up to N -/
structure Fit (w n : Nat) (p : Vec) (D N : Nat) (o : Row) : Prop where
  lc : o.c.length = w
  lp : o.p.length = n
  dot : dot w (gD o.c) p = o.b
  ic : ∀ k, In D N (gD o.c k)
  ib : In D N o.b
  ip : ∀ k, In D N (gD o.p k)
theorem Fit.sz {w n D N k : Nat} {p : Vec} {o : Row} (h : Fit w n p D N o) (h0 : 0 < D) (hD : D < 2 ^ k) (hN : N < 2 ^ k) : RSz w n k o :=
  ⟨h.lc, h.lp, fun j _ => (h.ic j).sz h0 hD hN, h.ib.sz h0 hD hN, fun j _ => (h.ip j).sz h0 hD hN⟩
theorem Fit.mono {w n D N M : Nat} {p : Vec} {o : Row} (h : Fit w n p D N o) (l : N ≤ M) : Fit w n p D M o :=
  ⟨h.lc, h.lp, h.dot, fun k => (h.ic k).mono l, h.ib.mono l, fun k => (h.ip k).mono l⟩
theorem Fit.scale {w n D N k : Nat} {p : Vec} {o : Row} (h : Fit w n p D N o) : Fit w n p (k * D) (k * N) o :=
  ⟨h.lc, h.lp, h.dot, fun j => (h.ic j).scale, h.ib.scale, fun j => (h.ip j).scale⟩
def Mon (o : Row) : Prop := ∃ l, lead o.c = some l ∧ gD o.c l = 1
def Rel (a b : Row) : Prop := ∀ la lb, lead a.c = some la → lead b.c = some lb → gD a.c lb = 0 ∧ gD b.c la = 0
def rowsC (os : List Row) : Vec → Prop := fun v => ∃ o ∈ os, v = gD o.c
theorem taken_fit {w n d D M N X : Nat} {p : Vec} {r o : Row} {f : Rat} (hr : Fit w n p (d * D) X r) (ho : Fit w n p D N o) (hf : In d M f) : Fit w n p (d * D) (X + M * N) (taken r f o) := by
  have e1 : o.c.length = r.c.length := by rw [ho.lc, hr.lc]
  have e2 : o.p.length = r.p.length := by rw [ho.lp, hr.lp]
  refine ⟨?_, ?_, ?_, fun k => ?_, ?_, fun k => ?_⟩
  · show (subV f r.c o.c).length = w; simp [subV, hr.lc]
  · show (subV f r.p o.p).length = n; simp [subV, hr.lp]
  · show MP.dot w (gD (subV f r.c o.c)) p = r.b - f * o.b
    rw [funext (gD_subV e1), dot_sub, hr.dot, ho.dot]
  · show In _ _ (gD (subV f r.c o.c) k)
    rw [gD_subV e1]; exact (hr.ic k).sub (hf.mul (ho.ic k))
  · exact hr.ib.sub (hf.mul ho.ib)
  · show In _ _ (gD (subV f r.p o.p) k)
    rw [gD_subV e2]; exact (hr.ip k).sub (hf.mul (ho.ip k))
/-- what reduced does -/
structure RedOk (w n : Nat) (p : Vec) (E Y : Nat) (os : List Row) (r : Row) : Prop where
  fit : Fit w n p E Y (redR os r)
  zero : ∀ o ∈ os, ∀ l, lead o.c = some l → gD (redR os r).c l = 0
  span : Span (rowsC os) fun i => gD r.c i - gD (redR os r).c i
  keep : ∀ l, gD r.c l = 0 → (∀ o ∈ os, gD o.c l = 0) → gD (redR os r).c l = 0
  ok : OkRed w n os r
theorem red_ok {w n d D M N : Nat} {p : Vec} (h0 : 0 < d * D) (hD0 : 0 < D) (hd : d * D < 2 ^ 1200) (hD : D < 2 ^ 1200) (hN : N < 2 ^ 1200) : ∀ (os : List Row) (r : Row) (X : Nat), (∀ o ∈ os, Fit w n p D N o ∧ Mon o) → os.Pairwise Rel →
    Fit w n p (d * D) X r → (∀ o ∈ os, ∀ l, lead o.c = some l → In d M (gD r.c l)) → X + os.length * (M * N) < 2 ^ 1200 → RedOk w n p (d * D) (X + os.length * (M * N)) os r := by
  intro os
  induction os with
  | nil =>
    intro r X _ _ hr _ _
    exact ⟨hr.mono (Nat.le_add_right _ _), fun o ho => absurd ho (by simp), Span.zero.cast fun i => by show (0 : Rat) = gD r.c i - gD r.c i; grind, fun l h _ => h, trivial⟩
  | cons o os ih =>
    intro r X hos hp hr hin hX
    obtain ⟨ho, l, hl, h1⟩ := hos o (List.mem_cons_self ..)
    obtain ⟨hp1, hp2⟩ := List.pairwise_cons.mp hp
    have e1 : o.c.length = r.c.length := by rw [ho.lc, hr.lc]
    have hf := hin o (List.mem_cons_self ..) l hl
    have ht := taken_fit hr ho hf
    have el : (o :: os).length * (M * N) = M * N + os.length * (M * N) := by rw [List.length_cons, Nat.succ_mul, Nat.add_comm]
    have eX : X + (o :: os).length * (M * N) = X + M * N + os.length * (M * N) := by rw [el]; omega
    have er : redR (o :: os) r = redR os (taken r (gD r.c l) o) := by
      show redR os (taken r (gD r.c ((lead o.c).getD 0)) o) = _
      rw [hl]; rfl
    have hc : ∀ k, gD (taken r (gD r.c l) o).c k = gD r.c k - gD r.c l * gD o.c k := gD_subV e1
    have hlt : ∀ o' ∈ os, ∀ l', lead o'.c = some l' → gD (taken r (gD r.c l) o).c l' = gD r.c l' := by
      intro o' ho' l' hl'
      rw [hc, (hp1 o' ho' l l' hl hl').1]; grind
    have H := ih (taken r (gD r.c l) o) (X + M * N) (fun o' h => hos o' (List.mem_cons_of_mem _ h)) hp2 ht (fun o' ho' l' hl' => by
      rw [hlt o' ho' l' hl']; exact hin o' (List.mem_cons_of_mem _ ho') l' hl') (by rw [← eX]; exact hX)
    rw [eX]
    have z : gD (taken r (gD r.c l) o).c l = 0 := by rw [hc, h1]; grind
    refine ⟨er ▸ H.fit, ?_, ?_, ?_, ?_⟩
    · rw [er]
      intro o' ho' l' hl'
      rcases List.mem_cons.mp ho' with rfl | ho'
      · rw [hl] at hl'; cases hl'
        refine H.keep l z fun o'' ho'' => ?_
        obtain ⟨_, l2, hl2, _⟩ := hos o'' (List.mem_cons_of_mem _ ho'')
        exact (hp1 o'' ho'' l l2 hl hl2).2
      · exact H.zero o' ho' l' hl'
    · rw [er]
      have s1 : Span (rowsC (o :: os)) fun i => gD (taken r (gD r.c l) o).c i - gD (redR os (taken r (gD r.c l) o)).c i := H.span.le fun v ⟨q, hq, e⟩ => .of ⟨q, List.mem_cons_of_mem _ hq, e⟩
      exact (s1.add ((Span.of (S := rowsC (o :: os)) ⟨o, List.mem_cons_self .., rfl⟩).smul (gD r.c l))).cast fun i => by rw [hc]; grind
    · rw [er]
      intro k hk hz
      refine H.keep k ?_ fun o' ho' => hz o' (List.mem_cons_of_mem _ ho')
      rw [hc, hk, hz o (List.mem_cons_self ..)]; grind
    · refine ⟨hr.sz h0 hd (by omega), ho.sz hD0 hD hN, ⟨l, hl⟩, ?_⟩
      rw [hl]; exact H.ok
end MP

/-! what joined makes of the kept rows and a new one. -/
namespace MP
theorem div_self' {a : Rat} (h : a ≠ 0) : a / a = 1 := by rw [Rat.div_def]; exact Rat.mul_inv_cancel a h
theorem lead_of {c : List Rat} {l : Nat} (h : gD c l ≠ 0) (hz : ∀ k, k < l → gD c k = 0) : lead c = some l := by
  cases hl : lead c with
  | none => exact absurd (lead_none hl l) h
  | some m =>
    obtain ⟨h1, h2, h3⟩ := lead_some hl
    rcases Nat.lt_trichotomy m l with h' | h' | h'
    · exact absurd (hz m h') h2
    · rw [h']
    · exact absurd (h3 l h') h
theorem In.divd {D M : Nat} {q a : Rat} {n : Int} (h : In D M q) (hD : 0 < D) (ha : a * ((D : Int) : Rat) = n) (h0 : a ≠ 0) : In n.natAbs M (q / a) := by
  obtain ⟨m, e, l⟩ := h
  have hDr : ((D : Int) : Rat) ≠ 0 := icast_ne (by omega)
  have key : q / a * (n : Rat) = m := by
    rw [← ha, ← e, Rat.div_def]
    have := Rat.mul_inv_cancel a h0
    grind
  by_cases hn : 0 ≤ n
  · refine ⟨m, ?_, l⟩
    have : ((n.natAbs : Nat) : Int) = n := by omega
    rw [this]; exact key
  · refine ⟨-m, ?_, by omega⟩
    have : ((n.natAbs : Nat) : Int) = -n := by omega
    rw [this, Rat.intCast_neg, Rat.intCast_neg, ← key]; grind
theorem divd_fit {w n D M : Nat} {p : Vec} {o : Row} {a : Rat} {m : Int} (h : Fit w n p D M o) (hD : 0 < D) (ha : a * ((D : Int) : Rat) = m) (h0 : a ≠ 0) : Fit w n p m.natAbs M (divd o a) := by
  refine ⟨?_, ?_, ?_, fun k => ?_, ?_, fun k => ?_⟩
  · show (o.c.map (· / a)).length = w; simp [h.lc]
  · show (o.p.map (· / a)).length = n; simp [h.lp]
  · show MP.dot w (gD (o.c.map (· / a))) p = o.b / a
    rw [funext gD_map_div, dot_div, h.dot]
  · show In _ _ (gD (o.c.map (· / a)) k)
    rw [gD_map_div]; exact (h.ic k).divd hD ha h0
  · exact h.ib.divd hD ha h0
  · show In _ _ (gD (o.p.map (· / a)) k)
    rw [gD_map_div]; exact (h.ip k).divd hD ha h0
theorem join_eq {kept : List Row} {R : Row} {l : Nat} (hl : lead R.c = some l) : joinR kept R = kept.map (fun o => taken o (gD o.c l) (divd R (gD R.c l))) ++ [divd R (gD R.c l)] := by
  unfold joinR; rw [hl]; rfl
theorem join_ok {w n D N E Y : Nat} {p : Vec} {kept : List Row} {R : Row} {l : Nat} (hk : ∀ o ∈ kept, Fit w n p D N o ∧ Mon o) (hp : kept.Pairwise Rel) (hR : Fit w n p E Y R) (hE : 0 < E) (hD : 0 < D)
    (hz : ∀ o ∈ kept, ∀ k, lead o.c = some k → gD R.c k = 0) (hl : lead R.c = some l) :
    ∃ D', 0 < D' ∧ D' ≤ D * Y ∧ (∀ o ∈ joinR kept R, Fit w n p D' (D * Y + 2 * (N * Y)) o ∧ Mon o) ∧ (joinR kept R).Pairwise Rel ∧
      Fit w n p D' (D * Y) (divd R (gD R.c l)) ∧ ∀ v, Span (rowsC (joinR kept R)) v ↔ Span (fun r => rowsC kept r ∨ r = gD R.c) v := by
  obtain ⟨_, ha, hlz⟩ := lead_some hl
  obtain ⟨m, hm, hmY⟩ := hR.ic l
  have hm0 : m ≠ 0 := by
    intro h
    rw [h] at hm
    rcases Rat.mul_eq_zero.mp hm with h' | h'
    · exact ha h'
    · exact icast_ne (by omega) h'
  have hr' := divd_fit hR hE hm ha
  have hc' : ∀ k, gD (divd R (gD R.c l)).c k = gD R.c k / gD R.c l := fun k => gD_map_div k
  have hl' : lead (divd R (gD R.c l)).c = some l := by
    refine lead_of ?_ fun k hk => ?_
    · rw [hc', div_self' ha]; decide
    · rw [hc', hlz k hk, Rat.div_def]; grind
  have h1' : gD (divd R (gD R.c l)).c l = 1 := by rw [hc', div_self' ha]
  generalize hr : divd R (gD R.c l) = r' at *
  have hzr : ∀ o ∈ kept, ∀ k, lead o.c = some k → gD r'.c k = 0 := fun o ho k hk => by rw [hc', hz o ho k hk, Rat.div_def]; grind
  have hlo : ∀ o ∈ kept, o.c.length = w := fun o ho => (hk o ho).1.lc
  have hco : ∀ o ∈ kept, ∀ k, gD (taken o (gD o.c l) r').c k = gD o.c k - gD o.c l * gD r'.c k := fun o ho k => gD_subV (by rw [hlo o ho, hr'.lc]) k
  have hleado : ∀ o ∈ kept, ∀ k, lead o.c = some k → lead (taken o (gD o.c l) r').c = some k ∧ gD (taken o (gD o.c l) r').c k = gD o.c k := by
    intro o ho k hk'
    obtain ⟨_, h2, h3⟩ := lead_some hk'
    have e : gD (taken o (gD o.c l) r').c k = gD o.c k := by rw [hco o ho, hzr o ho k hk']; grind
    refine ⟨lead_of (by rw [e]; exact h2) fun j hj => ?_, e⟩
    rw [hco o ho, h3 j hj]
    by_cases hlk : l < k
    · rw [h3 l hlk]; grind
    · have : gD R.c j = 0 := hlz j (by omega)
      rw [hc', this, Rat.div_def]; grind
  have hat : ∀ o ∈ kept, gD (taken o (gD o.c l) r').c l = 0 := fun o ho => by rw [hco o ho, h1']; grind
  refine ⟨m.natAbs * D, Nat.mul_pos (by omega) hD, ?_, ?_, ?_, ?_, ?_⟩
  · rw [Nat.mul_comm]; exact Nat.mul_le_mul_left _ hmY
  · rw [join_eq hl, hr]
    intro o ho
    rcases List.mem_append.mp ho with ho | ho
    · obtain ⟨q, hq, rfl⟩ := List.mem_map.mp ho
      obtain ⟨hf, k, hk1, hk2⟩ := hk q hq
      refine ⟨?_, k, (hleado q hq k hk1).1, by rw [(hleado q hq k hk1).2, hk2]⟩
      have f1 := hf.scale (k := m.natAbs)
      rw [Nat.mul_comm m.natAbs D] at f1 ⊢
      have t := taken_fit f1 hr' (hf.ic l)
      have b1 : m.natAbs * N ≤ Y * N := Nat.mul_le_mul_right _ hmY
      rw [Nat.mul_comm Y N] at b1
      exact t.mono (by omega)
    · rw [List.mem_singleton.mp ho]
      refine ⟨?_, l, hl', h1'⟩
      have := hr'.scale (k := D)
      rw [Nat.mul_comm m.natAbs D]
      exact this.mono (by omega)
  · rw [join_eq hl, hr, List.pairwise_append]
    refine ⟨?_, List.pairwise_singleton .., ?_⟩
    · rw [List.pairwise_map]
      refine List.Pairwise.imp_of_mem ?_ hp
      intro a b hma hmb hab la lb h1 h2
      obtain ⟨_, ka, hka, _⟩ := hk a hma
      obtain ⟨_, kb, hkb, _⟩ := hk b hmb
      rw [(hleado a hma ka hka).1] at h1; cases h1
      rw [(hleado b hmb kb hkb).1] at h2; cases h2
      have h3 := hab _ _ hka hkb
      constructor
      · rw [hco a hma, h3.1, hzr b hmb _ hkb]; grind
      · rw [hco b hmb, h3.2, hzr a hma _ hka]; grind
    · intro a ha' b hb la lb h1 h2
      obtain ⟨q, hq, rfl⟩ := List.mem_map.mp ha'
      rw [List.mem_singleton.mp hb] at h2 ⊢
      obtain ⟨_, k, hk1, _⟩ := hk q hq
      rw [hl'] at h2; cases h2
      rw [(hleado q hq k hk1).1] at h1; cases h1
      exact ⟨hat q hq, hzr q hq _ hk1⟩
  · have := hr'.scale (k := D)
    rw [Nat.mul_comm m.natAbs D]
    exact this
  · intro v
    have hRr : ∀ i, gD R.c i = gD R.c l * gD r'.c i := fun i => by
      rw [hc', Rat.div_def]
      have := Rat.mul_inv_cancel _ ha
      grind
    rw [join_eq hl, hr]
    constructor
    · refine fun h => h.le fun q ⟨o, ho, e⟩ => ?_
      subst e
      have sr : Span (fun r => rowsC kept r ∨ r = gD R.c) (gD r'.c) := ((Span.of (S := fun r => rowsC kept r ∨ r = gD R.c) (.inr rfl)).smul (gD R.c l)⁻¹).cast fun i => by rw [hc', Rat.div_def]; grind
      rcases List.mem_append.mp ho with ho | ho
      · obtain ⟨x, hx, rfl⟩ := List.mem_map.mp ho
        exact ((Span.of (S := fun r => rowsC kept r ∨ r = gD R.c) (.inl ⟨x, hx, rfl⟩)).sub (gD x.c l) sr).cast fun i => by rw [hco x hx]
      · rw [List.mem_singleton.mp ho]; exact sr
    · refine fun h => h.le fun q hq => ?_
      have sr : Span (rowsC (kept.map (fun o => taken o (gD o.c l) r') ++ [r'])) (gD r'.c) := .of ⟨r', by simp, rfl⟩
      rcases hq with ⟨o, ho, e⟩ | e
      · subst e
        have so : Span (rowsC (kept.map (fun o => taken o (gD o.c l) r') ++ [r'])) (gD (taken o (gD o.c l) r').c) := .of ⟨_, List.mem_append_left _ (List.mem_map_of_mem ho), rfl⟩
        exact (so.add (sr.smul (gD o.c l))).cast fun i => by rw [hco o ho]; grind
      · subst e
        exact (sr.smul (gD R.c l)).cast fun i => (hRr i).symm
end MP

/-! the turns of settle over rows that a point answers. -/
namespace MP
def eB : Nat → Nat
  | 0 => 0
  | k + 1 => 2 * eB k + 15
theorem eB_le : ∀ k, k ≤ 6 → eB k ≤ 945 := by decide
theorem eB_le5 : ∀ k, k < 6 → eB k ≤ 465 := by decide
def rowsE (es : List Eqn) : Vec → Prop := fun v => ∃ e ∈ es, v = gD e.c
structure Eqs (w : Nat) (p : Vec) (rows : List Eqn) : Prop where
  six : rows.length ≤ 6
  lc : ∀ e ∈ rows, e.c.length = w
  dot : ∀ e ∈ rows, dot w (gD e.c) p = e.b
  ic : ∀ e ∈ rows, ∀ k, In 12 1080 (gD e.c k)
  ib : ∀ e ∈ rows, In 12 1080 e.b
structure InvAt (w n : Nat) (p : Vec) (rows : List Eqn) (k : Nat) (kept : List Row) (D N : Nat) : Prop where
  len : kept.length ≤ k
  pos : 0 < D
  d : D ≤ 2 ^ eB k
  nn : N ≤ 2 ^ eB k
  fit : ∀ o ∈ kept, Fit w n p D N o ∧ Mon o
  rel : kept.Pairwise Rel
  span : ∀ v, Span (rowsC kept) v ↔ Span (rowsE (rows.take k)) v
def Inv (w n : Nat) (p : Vec) (rows : List Eqn) (k : Nat) (kept : List Row) : Prop := ∃ D N, InvAt w n p rows k kept D N
theorem inv_zero (w n : Nat) (p : Vec) (rows : List Eqn) : Inv w n p rows 0 [] :=
  ⟨1, 1, ⟨Nat.le_refl _, by decide, by decide, by decide, fun o ho => absurd ho (by simp), List.Pairwise.nil, fun v => ⟨fun h => h.le fun r ⟨o, ho, _⟩ => absurd ho (by simp), fun h => h.le fun r ⟨o, ho, _⟩ => absurd ho (by simp)⟩⟩⟩
theorem In.one : In 12 1080 1 := ⟨12, by grind, by decide⟩
theorem unit_in (n k j : Nat) : In 12 1080 (gD (unitR n k) j) := by
  by_cases h : j < n
  · unfold unitR
    rw [gD_range h]
    split
    · exact .one
    · exact .zero _ _
  · rw [gD_past (by simp [unitR]; omega)]; exact .zero _ _
theorem pow_lt_1200 {B x c i : Nat} (hB : B ≤ 2 ^ i) (hx : x ≤ 2 ^ c * B) (h : c + i < 1200) : x < 2 ^ 1200 := by
  have h1 : 2 ^ c * B ≤ 2 ^ c * 2 ^ i := Nat.mul_le_mul_left _ hB
  rw [← Nat.pow_add] at h1
  have h2 : 2 ^ (c + i) < 2 ^ 1200 := Nat.pow_lt_pow_right (by decide) h
  omega
section
variable {w : Nat} {p : Vec} {rows : List Eqn}
theorem turn_red (H : Eqs w p rows) {k D N : Nat} {kept : List Row} {e : Eqn} (he : rows[k]? = some e) (hI : InvAt w rows.length p rows k kept D N) :
    RedOk w rows.length p (12 * D) (D * 1080 + kept.length * (1080 * N)) kept ⟨e.c, e.b, unitR rows.length k⟩ ∧ D * 1080 + kept.length * (1080 * N) ≤ 8192 * 2 ^ eB k ∧ D * 1080 + kept.length * (1080 * N) < 2 ^ 1200 ∧ 12 * D < 2 ^ 1200 := by
  obtain ⟨hk, hkl⟩ := List.getElem?_eq_some_iff.mp he
  have hk6 : k < 6 := Nat.lt_of_lt_of_le hk H.six
  have hem : e ∈ rows := List.mem_of_getElem? he
  have b5 := eB_le5 k hk6
  have hP : 2 ^ eB k ≤ 2 ^ 465 := Nat.pow_le_pow_right (by decide) b5
  have hd := hI.d
  have hn := hI.nn
  have hl : kept.length ≤ 5 := by have := hI.len; omega
  have hm : kept.length * (1080 * N) ≤ 5 * (1080 * 2 ^ eB k) := Nat.mul_le_mul hl (Nat.mul_le_mul_left _ hn)
  generalize hB : 2 ^ eB k = B at *
  have hY : D * 1080 + kept.length * (1080 * N) ≤ 8192 * B := by omega
  have hY' : D * 1080 + kept.length * (1080 * N) < 2 ^ 1200 := pow_lt_1200 (c := 13) hP (by simpa using hY) (by decide)
  have h12 : 12 * D < 2 ^ 1200 := pow_lt_1200 (c := 4) hP (by show 12 * D ≤ 16 * B; omega) (by decide)
  have hDD : D < 2 ^ 1200 := by have := hI.pos; omega
  have hNN : N < 2 ^ 1200 := pow_lt_1200 (c := 0) hP (by simpa using hn) (by decide)
  refine ⟨red_ok (d := 12) (M := 1080) (by have := hI.pos; omega) hI.pos h12 hDD hNN kept _ (D * 1080) hI.fit hI.rel ?_ (fun o _ l _ => H.ic e hem l) hY', hY, hY', h12⟩
  have f : Fit w rows.length p 12 1080 ⟨e.c, e.b, unitR rows.length k⟩ := ⟨H.lc e hem, by simp [unitR], H.dot e hem, H.ic e hem, H.ib e hem, unit_in _ _⟩
  have := f.scale (k := D)
  rwa [Nat.mul_comm D 12] at this
theorem take_span (H : Eqs w p rows) {k : Nat} {e : Eqn} (he : rows[k]? = some e) (v : Vec) : Span (rowsE (rows.take (k + 1))) v ↔ Span (fun r => rowsE (rows.take k) r ∨ r = gD e.c) v := by
  have : rowsE (rows.take (k + 1)) = fun r => rowsE (rows.take k) r ∨ r = gD e.c := by
    funext r
    refine propext ⟨fun ⟨x, hx, e'⟩ => ?_, fun h => ?_⟩
    · rw [List.take_succ, he] at hx
      rcases List.mem_append.mp hx with hx | hx
      · exact .inl ⟨x, hx, e'⟩
      · simp at hx; subst hx; exact .inr e'
    · rw [rowsE, List.take_succ, he]
      rcases h with ⟨x, hx, e'⟩ | e'
      · exact ⟨x, List.mem_append_left _ hx, e'⟩
      · exact ⟨e, by simp, e'⟩
  rw [this]
theorem turn_ok (H : Eqs w p rows) : Turn w rows.length (Inv w rows.length p rows) rows := by
  refine ⟨rfl, ?_, ?_, ?_, ?_⟩
  · rintro k kept e he ⟨D, N, hI⟩
    exact (turn_red H he hI).1.ok
  · rintro k kept e he ⟨D, N, hI⟩
    obtain ⟨h1, _, h2, h3⟩ := turn_red H he hI
    exact h1.fit.sz (by have := hI.pos; omega) h3 h2
  · rintro k kept e l he ⟨D, N, hI⟩ hl
    obtain ⟨hk, hkl⟩ := List.getElem?_eq_some_iff.mp he
    have hk6 : k < 6 := Nat.lt_of_lt_of_le hk H.six
    obtain ⟨h1, hY, h2, h3⟩ := turn_red H he hI
    obtain ⟨D', p1, p2, p3, p4, p5, p6⟩ := join_ok hI.fit hI.rel h1.fit (by have := hI.pos; omega) hI.pos h1.zero hl
    generalize D * 1080 + kept.length * (1080 * N) = Y at *
    have q1 : D * Y ≤ 2 ^ eB k * (8192 * 2 ^ eB k) := Nat.mul_le_mul hI.d hY
    have q2 : N * Y ≤ 2 ^ eB k * (8192 * 2 ^ eB k) := Nat.mul_le_mul hI.nn hY
    have q3 : 2 ^ eB k * (8192 * 2 ^ eB k) * 4 = 2 ^ eB (k + 1) := by
      show _ = 2 ^ (2 * eB k + 15)
      rw [Nat.pow_add, Nat.two_mul, Nat.pow_add, Nat.mul_left_comm, Nat.mul_comm 8192, Nat.mul_assoc]
    have q4 : 2 ^ eB (k + 1) ≤ 2 ^ 945 := Nat.pow_le_pow_right (by decide) (eB_le (k + 1) (by omega))
    generalize 2 ^ eB k * (8192 * 2 ^ eB k) = Q at *
    have b1 : D' ≤ 2 ^ eB (k + 1) := by omega
    have b2 : D * Y + 2 * (N * Y) ≤ 2 ^ eB (k + 1) := by omega
    have b3 : D' < 2 ^ 1200 := pow_lt_1200 (c := 0) q4 (by simpa using b1) (by decide)
    have b4 : D * Y < 2 ^ 1200 := pow_lt_1200 (c := 0) q4 (by rw [Nat.pow_zero, Nat.one_mul]; omega) (by decide)
    have hDD : D < 2 ^ 1200 := by have := hI.pos; omega
    have hNN : N < 2 ^ 1200 := pow_lt_1200 (c := 0) (Nat.pow_le_pow_right (by decide) (eB_le5 k hk6)) (by simpa using hI.nn) (by decide)
    refine ⟨p5.sz p1 b3 b4, fun o ho => (hI.fit o ho).1.sz hI.pos hDD hNN, ?_, D', D * Y + 2 * (N * Y), ?_⟩
    · have := hI.len
      have : (6 : Nat) < line := by decide
      omega
    · refine ⟨?_, p1, b1, b2, p3, p4, fun v => ?_⟩
      · rw [join_eq hl]; simp; exact hI.len
      · rw [p6 v, take_span H he v]
        have sR : Span (rowsC kept) (fun i => gD e.c i - gD (redR kept ⟨e.c, e.b, unitR rows.length k⟩).c i) := h1.span
        constructor
        · refine fun h => h.le fun r hr => ?_
          have up : ∀ u, Span (rowsC kept) u → Span (fun r => rowsE (rows.take k) r ∨ r = gD e.c) u := fun u hu => ((hI.span u).mp hu).le fun r hr => .of (.inl hr)
          rcases hr with hr | hr
          · exact up r (.of hr)
          · subst hr
            exact ((Span.of (S := fun r => rowsE (rows.take k) r ∨ r = gD e.c) (.inr rfl)).sub 1 (up _ sR)).cast fun i => by grind
        · refine fun h => h.le fun r hr => ?_
          have up : ∀ u, Span (rowsC kept) u → Span (fun r => rowsC kept r ∨ r = gD (redR kept ⟨e.c, e.b, unitR rows.length k⟩).c) u := fun u hu => hu.le fun r hr => .of (.inl hr)
          rcases hr with hr | hr
          · exact up r ((hI.span r).mpr (.of hr))
          · subst hr
            exact ((up _ sR).add (.of (.inr rfl))).cast fun i => by grind
  · rintro k kept e he ⟨D, N, hI⟩ hl
    obtain ⟨hk, hkl⟩ := List.getElem?_eq_some_iff.mp he
    obtain ⟨h1, hY, h2, h3⟩ := turn_red H he hI
    have hz := lead_none hl
    refine ⟨?_, D, N, ?_⟩
    · rw [← h1.fit.dot]; exact dot_zero _ _ hz _
    · have e1 : eB k ≤ eB (k + 1) := by show eB k ≤ 2 * eB k + 15; omega
      have e2 : 2 ^ eB k ≤ 2 ^ eB (k + 1) := Nat.pow_le_pow_right (by decide) e1
      refine ⟨by have := hI.len; omega, hI.pos, Nat.le_trans hI.d e2, Nat.le_trans hI.nn e2, hI.fit, hI.rel, fun v => ?_⟩
      rw [hI.span v, take_span H he v]
      refine ⟨fun h => h.le fun r hr => .of (.inl hr), fun h => h.le fun r hr => ?_⟩
      rcases hr with hr | hr
      · exact .of hr
      · subst hr
        refine (hI.span _).mp (h1.span.cast fun i => ?_)
        rw [hz i]; grind
end
end MP

/-! worth_of finds a part exactly when its unit lies in the span. -/
namespace MP
def ld (o : Row) : Nat := (lead o.c).getD 0
def comb : List Row → Vec → Nat → Rat
  | [], _, _ => 0
  | o :: os, v, i => v (ld o) * gD o.c i + comb os v i
theorem comb_zero : ∀ (os : List Row) (v : Vec) (i : Nat), (∀ o ∈ os, v (ld o) = 0) → comb os v i = 0
  | [], _, _, _ => rfl
  | o :: os, v, i, h => by
    show v (ld o) * gD o.c i + comb os v i = 0
    rw [h o (List.mem_cons_self ..), comb_zero os v i fun q hq => h q (List.mem_cons_of_mem _ hq)]; grind
theorem comb_lin (a : Rat) (u r : Vec) (i : Nat) : ∀ os : List Row, comb os (fun i => u i + a * r i) i = comb os u i + a * comb os r i
  | [] => by show (0 : Rat) = 0 + a * 0; grind
  | o :: os => by
    show (u (ld o) + a * r (ld o)) * gD o.c i + comb os _ i = u (ld o) * gD o.c i + comb os u i + a * (r (ld o) * gD o.c i + comb os r i)
    rw [comb_lin a u r i os]; grind
theorem mon_ld {o : Row} (h : Mon o) : lead o.c = some (ld o) ∧ gD o.c (ld o) = 1 := by
  obtain ⟨l, h1, h2⟩ := h
  have : ld o = l := by unfold ld; rw [h1]; rfl
  rw [this]; exact ⟨h1, h2⟩
theorem comb_row {i : Nat} : ∀ (os : List Row), (∀ o ∈ os, Mon o) → os.Pairwise Rel → ∀ o ∈ os, comb os (gD o.c) i = gD o.c i
  | [], _, _, o, ho => absurd ho (by simp)
  | q :: os, hm, hp, o, ho => by
    obtain ⟨hp1, hp2⟩ := List.pairwise_cons.mp hp
    have hq := mon_ld (hm q (List.mem_cons_self ..))
    show gD o.c (ld q) * gD q.c i + comb os (gD o.c) i = gD o.c i
    rcases List.mem_cons.mp ho with rfl | ho
    · rw [hq.2, comb_zero os _ i fun x hx => ?_]
      · grind
      · exact (hp1 x hx _ _ hq.1 (mon_ld (hm x (List.mem_cons_of_mem _ hx))).1).1
    · rw [(hp1 o ho _ _ hq.1 (mon_ld (hm o (List.mem_cons_of_mem _ ho))).1).2, comb_row os (fun x hx => hm x (List.mem_cons_of_mem _ hx)) hp2 o ho]; grind
theorem comb_span {os : List Row} (hm : ∀ o ∈ os, Mon o) (hp : os.Pairwise Rel) {v : Vec} (hv : Span (rowsC os) v) : ∀ i, comb os v i = v i := by
  refine hv.lin (P := fun v => ∀ i, comb os v i = v i) (fun i => comb_zero os _ i fun _ _ => rfl) fun u r a hu hr i => ?_
  obtain ⟨o, ho, rfl⟩ := hr
  rw [comb_lin, hu i, comb_row os hm hp o ho]
theorem rel_all : ∀ {os : List Row}, (∀ o ∈ os, Mon o) → os.Pairwise Rel → ∀ a ∈ os, ∀ b ∈ os, gD a.c (ld b) = if ld b = ld a then 1 else 0
  | [], _, _, a, ha, _, _ => absurd ha (by simp)
  | q :: os, hm, hp, a, ha, b, hb => by
    obtain ⟨hp1, hp2⟩ := List.pairwise_cons.mp hp
    have hq := mon_ld (hm q (List.mem_cons_self ..))
    have step : ∀ x ∈ os, gD q.c (ld x) = 0 ∧ gD x.c (ld q) = 0 ∧ ld x ≠ ld q := fun x hx => by
      have hx' := mon_ld (hm x (List.mem_cons_of_mem _ hx))
      have := hp1 x hx _ _ hq.1 hx'.1
      refine ⟨this.1, this.2, fun e => ?_⟩
      have h1 := this.1
      rw [e, hq.2] at h1
      exact absurd h1 (by decide)
    rcases List.mem_cons.mp ha with ea | ha <;> rcases List.mem_cons.mp hb with eb | hb
    · rw [ea, eb, if_pos rfl]; exact hq.2
    · rw [ea, if_neg (step b hb).2.2]; exact (step b hb).1
    · rw [eb, if_neg fun e => (step a ha).2.2 e.symm]; exact (step a ha).2.1
    · exact rel_all (fun x hx => hm x (List.mem_cons_of_mem _ hx)) hp2 a ha b hb
theorem unit_at {w a i : Nat} (ha : a < w) : gD (unitR w a) i = if i = a then 1 else 0 := by
  by_cases h : i < w
  · exact gD_range h
  · rw [gD_past (by simp [unitR]; omega), if_neg (by omega)]
theorem filter_one {w a : Nat} (ha : a < w) : (List.range w).filter (fun k => decide (k = a)) = [a] := by
  induction w with
  | zero => omega
  | succ w ih =>
    rw [List.range_succ, List.filter_append]
    by_cases h : a = w
    · subst h
      have : (List.range a).filter (fun k => decide (k = a)) = [] := List.filter_eq_nil_iff.mpr fun k hk => by have := List.mem_range.mp hk; simp; omega
      rw [this]; simp
    · rw [ih (by omega)]
      have : ¬ w = a := fun e => h e.symm
      simp [this]
theorem unit_row {w n D N a : Nat} {p : Vec} {r : Row} (hf : Fit w n p D N r) (hm : Mon r) (h : isUnit w a r = true) : a < w ∧ (∀ i, gD r.c i = gD (unitR w a) i) := by
  unfold isUnit at h
  obtain ⟨h1, h2⟩ := (Bool.and_eq_true_iff.mp h)
  have h1 := of_decide_eq_true h1
  have h2 := of_decide_eq_true h2
  have haw : a < w := by rw [← hf.lc]; exact (lead_some h1).1
  refine ⟨haw, fun i => ?_⟩
  rw [unit_at haw]
  by_cases e : i = a
  · rw [if_pos e, e]
    obtain ⟨l, k1, k2⟩ := hm
    rw [h1] at k1; cases k1; exact k2
  · rw [if_neg e]
    by_cases hi : i < w
    · by_cases z : gD r.c i = 0
      · exact z
      · have : i ∈ (List.range w).filter (fun k => decide (gD r.c k ≠ 0)) := List.mem_filter.mpr ⟨List.mem_range.mpr hi, decide_eq_true z⟩
        rw [h2] at this
        exact absurd (List.mem_singleton.mp this) e
    · exact gD_past (by rw [hf.lc]; omega)
theorem dot_unit (p : Vec) {a : Nat} : ∀ w, dot w (fun i => if i = a then 1 else 0) p = if a < w then p a else 0
  | 0 => rfl
  | w + 1 => by
    show dot w _ p + (if w = a then 1 else 0) * p w = _
    rw [dot_unit p w]
    by_cases h : w = a
    · subst h; rw [if_neg (Nat.lt_irrefl _), if_pos rfl, if_pos (Nat.lt_succ_self _)]; grind
    · by_cases h2 : a < w
      · rw [if_pos h2, if_neg h, if_pos (by omega)]; grind
      · rw [if_neg h2, if_neg h, if_neg (by omega)]; grind
theorem worth_ok {w n D N a : Nat} {p : Vec} {kept : List Row} (hk : ∀ o ∈ kept, Fit w n p D N o ∧ Mon o) (hp : kept.Pairwise Rel) (ha : a < w) :
    (Span (rowsC kept) (gD (unitR w a)) → worthR w kept a = fr (p a)) ∧ (¬ Span (rowsC kept) (gD (unitR w a)) → worthR w kept a = .non) := by
  constructor
  · intro h
    have hm : ∀ o ∈ kept, Mon o := fun o ho => (hk o ho).2
    have hex : ∃ o ∈ kept, ld o = a := by
      refine Classical.byContradiction fun hn => ?_
      have h1 := comb_span hm hp h a
      rw [comb_zero kept _ a fun o ho => by rw [unit_at ha, if_neg fun e => hn ⟨o, ho, e⟩], unit_at ha, if_pos rfl] at h1
      exact absurd h1 (by decide)
    obtain ⟨o, ho, hlo⟩ := hex
    have hs : Span (rowsC kept) fun i => gD (unitR w a) i - 1 * gD o.c i := h.sub 1 (.of ⟨o, ho, rfl⟩)
    have hz : ∀ i, gD o.c i = gD (unitR w a) i := fun i => by
      have h1 := comb_span hm hp hs i
      rw [comb_zero kept _ i fun q hq => by
        show gD (unitR w a) (ld q) - 1 * gD o.c (ld q) = 0
        rw [unit_at ha, rel_all hm hp o ho q hq, hlo]; grind] at h1
      grind
    have hu : isUnit w a o = true := by
      have m := mon_ld (hm o ho)
      rw [hlo] at m
      unfold isUnit
      rw [m.1]
      have : (fun k => decide (gD o.c k ≠ 0)) = fun k => decide (k = a) := by
        funext k
        rw [hz k, unit_at ha]
        by_cases e : k = a
        · rw [if_pos e]; simp [e]
        · rw [if_neg e]; simp [e]
      rw [this, filter_one ha]; simp
    unfold worthR
    cases hf : kept.find? (isUnit w a) with
    | none => exact absurd hu (List.find?_eq_none.mp hf o ho)
    | some r =>
      have hr := List.mem_of_find?_eq_some hf
      have hru := List.find?_some hf
      have h1 := unit_row (hk r hr).1 (hk r hr).2 hru
      show fr r.b = fr (p a)
      rw [← (hk r hr).1.dot, funext h1.2, show gD (unitR w a) = fun i => if i = a then 1 else 0 from funext fun i => unit_at ha, dot_unit, if_pos ha]
  · intro h
    unfold worthR
    cases hf : kept.find? (isUnit w a) with
    | none => rfl
    | some r =>
      have hr := List.mem_of_find?_eq_some hf
      have hru := List.find?_some hf
      have h1 := unit_row (hk r hr).1 (hk r hr).2 hru
      exact absurd ((Span.of (S := rowsC kept) ⟨r, hr, rfl⟩).cast h1.2) h
end MP

/-! the run of the law's rank. -/
namespace MP
open PySem L2
theorem ok_frs (c : List Rat) (k : Nat) : okD (k + 2) (frs c) = true := by
  show okDs (k + 1) (c.map fr) = true
  refine okDs_of fun d hd => ?_
  obtain ⟨q, _, rfl⟩ := List.mem_map.mp hd
  exact ok_fr q k
theorem fr_zero : fr 0 = D.tup [.int 0, .int 1] := rfl
theorem fr_one : fr 1 = D.tup [.int 1, .int 1] := rfl
theorem ne_fr (a b : Rat) : cmpD .ne (fr a) (fr b) = some (decide (a ≠ b)) := by
  by_cases h : a = b
  · subst h; rw [ne_same (ok_fr a 0) (by decide)]; simp
  · rw [ne_diff (ok_fr a 0) (ok_fr b 0) (by decide) (by decide) fun e => h (fr_inj e)]; simp [h]
theorem ne_fr0 (a : Rat) : cmpD .ne (fr a) (.tup [.int 0, .int 1]) = some (decide (a ≠ 0)) := ne_fr a 0
theorem ne_own {ds : List D} {k : Nat} (h : okDs k ds = true) (hk : k < 64) : cmpD .ne (.own ds) (.lst []) = some !ds.isEmpty := by
  have e : cmpD .ne (.own ds) (.lst []) = cmpD .ne (.lst ds) (.lst []) := rfl
  rw [e]
  cases ds with
  | nil => exact ne_same (k := 1) rfl (by decide)
  | cons d ds => exact ne_diff (j := k + 1) (k := 1) (by simpa [okD] using h) rfl (by omega) (by decide) (by simp)
theorem eq_nil {ds : List D} {k : Nat} (h : okDs k ds = true) (hk : k < 64) : cmpD .eq (.lst ds) (.lst []) = some ds.isEmpty := by
  cases ds with
  | nil => exact eq_same (k := 1) rfl (by decide)
  | cons d ds => exact eq_diff (j := k + 1) (k := 1) (by simpa [okD] using h) rfl (by omega) (by decide) (by simp)
/-- the places where a row is not 0 at c -/
def places (c : Nat) (rest : List (List Rat)) : List Nat := (List.range rest.length).filter fun i => decide (gD (rest.getD i []) c ≠ 0)
theorem places_cons (c : Nat) (x : List Rat) (xs : List (List Rat)) : places c (x :: xs) = (if gD x c ≠ 0 then [0] else []) ++ (places c xs).map (· + 1) := by
  unfold places
  rw [List.length_cons, List.range_succ_eq_map, List.filter_cons, List.filter_map]
  have : ((fun i => decide (gD ((x :: xs).getD i []) c ≠ 0)) ∘ Nat.succ) = fun i => decide (gD (xs.getD i []) c ≠ 0) := by
    funext i; simp
  rw [this]
  by_cases h : gD x c = 0
  · simp [h]
  · simp [h]
theorem pick_places {c : Nat} : ∀ rest : List (List Rat), match pick c rest with
    | none => places c rest = []
    | some (r, ys) => ∃ j js, places c rest = j :: js ∧ rest[j]? = some r ∧ ys = rest.eraseIdx j
  | [] => rfl
  | x :: xs => by
    have ih := pick_places (c := c) xs
    rw [places_cons]
    unfold pick
    by_cases h : gD x c ≠ 0
    · rw [if_pos h, if_pos h]
      exact ⟨0, (places c xs).map (· + 1), rfl, rfl, rfl⟩
    · rw [if_neg h, if_neg h]
      cases hp : pick c xs with
      | none => rw [hp] at ih; simp [ih]
      | some q =>
        obtain ⟨r, ys⟩ := q
        rw [hp] at ih
        obtain ⟨j, js, h1, h2, h3⟩ := ih
        exact ⟨j + 1, js.map (· + 1), by simp [h1], by simpa using h2, by simp [h3]⟩
end MP

/-! the run of the law's rank: the loop. -/
namespace MP
open PySem L2
theorem fr_neg (q : Rat) : D.tup [.int (-q.num), .int (q.den : Int)] = fr (-q) := rfl
theorem sz_zero {k : Nat} (h : 0 < k) : Sz k 0 := ⟨by show (0 : Nat) < 2 ^ k; exact Nat.pow_pos (by decide), by show 1 < 2 ^ k; exact Nat.one_lt_two_pow (by omega)⟩
def rankInner (ov pl ti : Nat) : Ss := (.cons (.set 8 (.call ov (.cons (.idx (.idx (.slot 1) (.slot 7)) (.slot 4)) (.cons (.idx (.slot 6) (.slot 4)) .nil)) [])) (.cons (.set 8 (.tup (.cons (.neg (.idx (.slot 8) (.cint 0))) (.cons (.idx (.slot 8) (.cint 1)) .nil)))) (.cons (.setIx 1 (.slot 7) (.comp (.call pl (.cons (.idx (.idx (.slot 1) (.slot 7)) (.slot 9)) (.cons (.call ti (.cons (.slot 8) (.cons (.idx (.slot 6) (.slot 9)) .nil)) []) .nil)) []) [9] (.rng1 (.slot 3)) .nil [9])) .nil)))
def rankBody (ov pl ti : Nat) : Ss := (.cons (.set 5 (.comp (.slot 7) [7] (.rng2 (.slot 2) (.prim .len (.cons (.slot 1) .nil))) (.cons (.cmp .ne (.idx (.idx (.slot 1) (.slot 7)) (.slot 4)) (.tup (.cons (.cint 0) (.cons (.cint 1) .nil)))) .nil) [7])) (.cons (.ifS (.cmp .eq (.slot 5) (.lst .nil)) (.cons .cont .nil) .nil) (.cons (.popTo 6 1 (.idx (.slot 5) (.cint 0))) (.cons (.ins 1 (.slot 2) (.slot 6)) (.cons (.forS [7] (.rng2 (.bin .add (.slot 2) (.cint 1)) (.prim .len (.cons (.slot 1) .nil))) (rankInner ov pl ti)) (.cons (.set 2 (.bin .add (.slot 2) (.cint 1))) .nil))))))
def rankFd (ov pl ti : Nat) : Fd := ⟨1, 10, (.cons (.setM 1 (.comp (.prim .list (.cons (.slot 6) .nil)) [6] (.seq (.slot 0)) .nil [6])) (.cons (.set 2 (.cint 0)) (.cons (.set 3 (.cint 0)) (.cons (.ifS (.cmp .ne (.slot 1) (.lst .nil)) (.cons (.set 3 (.prim .len (.cons (.idx (.slot 1) (.cint 0)) .nil))) .nil) .nil) (.cons (.forS [4] (.rng1 (.slot 3)) (rankBody ov pl ti)) (.cons (.ret (.slot 2)) .nil))))))⟩
theorem ixN_at {n j : Nat} (h : j < n) : ixN n (j : Int) = some j := by
  unfold ixN
  rw [if_pos (by omega), if_pos (by omega), Int.toNat_natCast]
/-- fractions from the law's own defs, 2400 bits at most -/
structure Ops (Φ : Nat → List D → Option D) (ov pl ti : Nat) : Prop where
  ov : ∀ a b : Rat, Sz 2400 a → Sz 2400 b → b ≠ 0 → Φ ov [fr a, fr b] = some (fr (a / b))
  pl : ∀ a b : Rat, Sz 2400 a → Sz 2400 b → Φ pl [fr a, fr b] = some (fr (a + b))
  ti : ∀ a b : Rat, Sz 2400 a → Sz 2400 b → Φ ti [fr a, fr b] = some (fr (a * b))
section
variable {Φ : Nat → List D → Option D} {wf : Nat} {ρ : Rho}
theorem comp_range2_if {elt a b : E} {t : T} {j lo n : Nat} {g : Nat → D} {p : Nat → Bool} (ha : evE Φ a ρ = some (.int (lo : Int))) (hb : evE Φ b ρ = some (.int ((lo + n : Nat) : Int))) (hn : lo + n ≤ line)
    (ht : ∀ k, k < n → evT Φ t (ρ.set j (.val (.int ((lo + k : Nat) : Int)))) = some (p k))
    (h : ∀ k, k < n → p k = true → (evE Φ elt (ρ.set j (.val (.int ((lo + k : Nat) : Int))))).bind pure? = some (g k)) :
    evE Φ (.comp elt [j] (.rng2 a b) (.cons t .nil) [j]) ρ = some (.lst (((List.range n).filter p).map g)) := by
  have e : rng (lo : Int) ((lo + n : Nat) : Int) = (List.range n).map fun (k : Nat) => D.int ((lo + k : Nat) : Int) := by
    unfold rng
    have : (((lo + n : Nat) : Int) - (lo : Int)).toNat = n := by omega
    rw [this]
    refine List.map_congr_left fun k _ => ?_
    rw [Int.natCast_add]
  have k1 := okRng_nat (n := lo) (by omega)
  have k2 := okRng_nat (n := lo + n) hn
  rw [ev_comp]
  simp only [evIt_rng2, ha, hb, k1, k2, Bool.and_self, if_true, e]
  have : compM (stepC Φ elt [j] (.cons t .nil) [j] ρ) ((List.range n).map fun (k : Nat) => D.int ((lo + k : Nat) : Int)) = some (((List.range n).filter p).map g) := by
    rw [compM_filter (g := fun d => match d with | .int i => g (i.toNat - lo) | d => d) (p := fun d => match d with | .int i => p (i.toNat - lo) | d => false), List.filter_map, List.map_map]
    · have e1 : ∀ k, (((lo + k : Nat) : Int)).toNat - lo = k := fun k => by rw [Int.toNat_natCast]; omega
      have e2 : ((fun d => match d with | .int i => p (i.toNat - lo) | d => false) ∘ fun (k : Nat) => D.int ((lo + k : Nat) : Int)) = p := by
        funext k; show p (((lo + k : Nat) : Int).toNat - lo) = p k; rw [e1]
      have e3 : ((fun d => match d with | .int i => g (i.toNat - lo) | d => d) ∘ fun (k : Nat) => D.int ((lo + k : Nat) : Int)) = g := by
        funext k; show g (((lo + k : Nat) : Int).toNat - lo) = g k; rw [e1]
      rw [e2, e3]
    · intro d hd
      obtain ⟨k, hk, rfl⟩ := List.mem_map.mp hd
      have hk := List.mem_range.mp hk
      have e1 : (((lo + k : Nat) : Int)).toNat - lo = k := by rw [Int.toNat_natCast]; omega
      simp only [stepC, wipeR_one, setTg_name, List.set_set, evTs_cons, ht k hk, e1]
      cases hp : p k with
      | false => rfl
      | true => simp only [h k hk hp]; rfl
  rw [this]
  have : ((List.range n).filter p).length ≤ n := by simpa using List.length_filter_le p (List.range n)
  simp only [List.length_map]
  rw [if_pos (decide_eq_true (by omega))]
theorem clear_turn {ov pl ti w c b : Nat} {r x : List Rat} (O : Ops Φ ov pl ti) (hw : w ≤ line) (hc : c < w) (hr : r.length = w) (hx : x.length = w) (hr0 : gD r c ≠ 0)
    (sr : ∀ k, Sz b (gD r k)) (sx : ∀ k, Sz b (gD x k)) (hb : 3 * b ≤ 2400) (pre post : List (List Rat)) (R F : SV) (x5 x7 x8 x9 : SV) :
    stepF Φ wf [7] (rankInner ov pl ti) (.int (pre.length : Int)) [R, .mls ((pre ++ x :: post).map frs), F, .val (.int (w : Int)), .val (.int (c : Int)), x5, .val (frs r), x7, x8, x9]
      = some (.nx [R, .mls ((pre ++ clear w c r x :: post).map frs), F, .val (.int (w : Int)), .val (.int (c : Int)), x5, .val (frs r), .val (.int (pre.length : Int)), .val (fr (-(gD x c / gD r c))), x9]) := by
  have hix : ixD (.own ((pre ++ x :: post).map frs)) (.int (pre.length : Int)) = some (frs x) := ix_own (by simp)
  have hxc : c < x.length := by rw [hx]; exact hc
  have hrc : c < r.length := by rw [hr]; exact hc
  have h1 := O.ov (gD x c) (gD r c) ((sx c).mono (by omega)) ((sr c).mono (by omega)) hr0
  have sq : Sz (b + b) (-(gD x c / gD r c)) := ((sx c).div (sr c) hr0).neg
  have h2 : (2 : Nat) ≤ line := by decide
  have h3 : ixN ((pre ++ x :: post).map frs).length (pre.length : Int) = some pre.length := ixN_at (by simp)
  have h4 : ((pre ++ x :: post).map frs).set pre.length (frs (clear w c r x)) = (pre ++ clear w c r x :: post).map frs := by simp
  have h5 : evE Φ (.comp (.call pl (.cons (.idx (.idx (.slot 1) (.slot 7)) (.slot 9)) (.cons (.call ti (.cons (.slot 8) (.cons (.idx (.slot 6) (.slot 9)) .nil)) []) .nil)) []) [9] (.rng1 (.slot 3)) .nil [9])
      [R, .mls ((pre ++ x :: post).map frs), F, .val (.int (w : Int)), .val (.int (c : Int)), x5, .val (frs r), .val (.int (pre.length : Int)), .val (fr (-(gD x c / gD r c))), x9] = some (frs (clear w c r x)) := by
    rw [comp_range (n := w) (g := fun k => fr (gD x k + -(gD x c / gD r c) * gD r k))]
    · simp [frs, clear]
    · simp
    · exact hw
    · intro k hk
      have hxk : k < x.length := by rw [hx]; exact hk
      have hrk : k < r.length := by rw [hr]; exact hk
      have t1 := O.ti (-(gD x c / gD r c)) (gD r k) (sq.mono (by omega)) ((sr k).mono (by omega))
      have t2 := O.pl (gD x k) (-(gD x c / gD r c) * gD r k) ((sx k).mono (by omega)) ((sq.mul (sr k)).mono (by omega))
      generalize -(gD x c / gD r c) = Q at t1 t2 ⊢
      clear h3 h4
      generalize (pre ++ x :: post).map frs = L at *
      simp [hix, ix_frs' hxk, ix_frs' hrk, t1, t2]
  have h6 := fr_neg (gD x c / gD r c)
  generalize hQ : gD x c / gD r c = q at *
  generalize (pre ++ x :: post).map frs = L at *
  simp [stepF, rankInner, hix, ix_frs' hxc, ix_frs' hrc, h1, h2, h6, h3, h5, h4]
theorem clear_loop {ov pl ti w c b : Nat} {r : List Rat} (O : Ops Φ ov pl ti) (hw : w ≤ line) (hc : c < w) (hr : r.length = w) (hr0 : gD r c ≠ 0)
    (sr : ∀ k, Sz b (gD r k)) (hb : 3 * b ≤ 2400) (R F : SV) (x5 x9 : SV) :
    ∀ (ys pre : List (List Rat)) (x7 x8 : SV), (∀ x ∈ ys, x.length = w) → (∀ x ∈ ys, ∀ k, Sz b (gD x k)) → ∃ x7' x8',
    forM (stepF Φ wf [7] (rankInner ov pl ti)) ((List.range' pre.length ys.length).map fun (k : Nat) => D.int (k : Int)) [R, .mls ((pre ++ ys).map frs), F, .val (.int (w : Int)), .val (.int (c : Int)), x5, .val (frs r), x7, x8, x9]
      = some (.nx [R, .mls ((pre ++ ys.map (clear w c r)).map frs), F, .val (.int (w : Int)), .val (.int (c : Int)), x5, .val (frs r), x7', x8', x9])
  | [], pre, x7, x8, _, _ => ⟨x7, x8, rfl⟩
  | x :: ys, pre, x7, x8, hl, hs => by
    have h1 := clear_turn (wf := wf) O hw hc hr (hl x (List.mem_cons_self ..)) hr0 sr (hs x (List.mem_cons_self ..)) hb pre ys R F x5 x7 x8 x9
    obtain ⟨x7', x8', h2⟩ := clear_loop O hw hc hr hr0 sr hb R F x5 x9 ys (pre ++ [clear w c r x]) (.val (.int (pre.length : Int))) (.val (fr (-(gD x c / gD r c)))) (fun z hz => hl z (List.mem_cons_of_mem _ hz)) (fun z hz => hs z (List.mem_cons_of_mem _ hz))
    refine ⟨x7', x8', ?_⟩
    have e : (List.range' pre.length (x :: ys).length).map (fun (k : Nat) => D.int (k : Int)) = .int (pre.length : Int) :: (List.range' (pre.length + 1) ys.length).map fun (k : Nat) => D.int (k : Int) := rfl
    have e2 : (pre ++ [clear w c r x]).length = pre.length + 1 := by simp
    rw [e2, List.append_assoc, List.append_assoc] at h2
    rw [e, forM_cons, h1]
    exact h2
end
end MP

/-! the run of the law's rank: the columns. -/
namespace MP
open PySem L2
def rB : Nat → Nat
  | 0 => 2
  | c + 1 => 4 * rB c + 1
theorem eraseIdx_map' {α β : Type} (f : α → β) : ∀ (xs : List α) (n : Nat), (xs.map f).eraseIdx n = (xs.eraseIdx n).map f
  | [], _ => rfl
  | _ :: _, 0 => rfl
  | x :: xs, n + 1 => congrArg (f x :: ·) (eraseIdx_map' f xs n)
theorem rB_le : ∀ c, c < 5 → 3 * rB c ≤ 2400 := by decide
theorem rB_pos : ∀ c, 0 < rB c
  | 0 => by decide
  | c + 1 => Nat.succ_pos _
theorem rankF_nil (w : Nat) : ∀ m c, rankF w m c [] = 0
  | 0, _ => rfl
  | m + 1, c => by
    show rankF w m (c + 1) [] = 0
    exact rankF_nil w m (c + 1)
theorem ints_okDs (xs : List Nat) (l : Nat) : okDs 0 (xs.map fun (k : Nat) => D.int ((l + k : Nat) : Int)) = true :=
  okDs_of fun d hd => by obtain ⟨k, _, rfl⟩ := List.mem_map.mp hd; rfl
section
variable {Φ : Nat → List D → Option D} {wf : Nat} {ρ : Rho}
theorem rank_places {ov pl ti w c : Nat} (hc : c < w) (top rest : List (List Rat)) (hn : top.length + rest.length ≤ 64) (hl : ∀ x ∈ rest, x.length = w) (R W x5 x6 x7 x8 x9 : SV) :
    evE Φ (.comp (.slot 7) [7] (.rng2 (.slot 2) (.prim .len (.cons (.slot 1) .nil))) (.cons (.cmp .ne (.idx (.idx (.slot 1) (.slot 7)) (.slot 4)) (.tup (.cons (.cint 0) (.cons (.cint 1) .nil)))) .nil) [7])
      [R, .mls ((top ++ rest).map frs), .val (.int (top.length : Int)), W, .val (.int (c : Int)), x5, x6, x7, x8, x9] = some (.lst ((places c rest).map fun (k : Nat) => D.int ((top.length + k : Nat) : Int))) := by
  have hl64 : (64 : Nat) ≤ line := by decide
  refine comp_range2_if (lo := top.length) (n := rest.length) (by simp) (by simp) (by omega) (fun k hk => ?_) (fun k hk _ => by simp)
  have hix : ixD (.own ((top ++ rest).map frs)) (.int ((top.length + k : Nat) : Int)) = some (frs (rest.getD k [])) := ix_own (by
    rw [List.getElem?_map, List.getElem?_append_right (by omega)]
    have : top.length + k - top.length = k := by omega
    rw [this, List.getD_eq_getElem?_getD, List.getElem?_eq_getElem hk]; rfl)
  have hlen : c < (rest.getD k []).length := by
    rw [List.getD_eq_getElem?_getD, List.getElem?_eq_getElem hk, Option.getD_some, hl _ (List.getElem_mem hk)]; exact hc
  have h2 : (2 : Nat) ≤ line := by decide
  have h3 := ne_fr0 (gD (rest.getD k []) c)
  generalize rest.getD k [] = X at *
  generalize (top ++ rest).map frs = L at *
  generalize ((top.length + k : Nat) : Int) = I at *
  simp [hix, ix_frs' hlen, h2, h3]
theorem rank_none {ov pl ti w c : Nat} (hc : c < w) (top rest : List (List Rat)) (hn : top.length + rest.length ≤ 64) (hl : ∀ x ∈ rest, x.length = w) (hp : places c rest = []) (R W x4 x5 x6 x7 x8 x9 : SV) :
    stepF Φ wf [4] (rankBody ov pl ti) (.int (c : Int)) [R, .mls ((top ++ rest).map frs), .val (.int (top.length : Int)), W, x4, x5, x6, x7, x8, x9] =
      some (.ct [R, .mls ((top ++ rest).map frs), .val (.int (top.length : Int)), W, .val (.int (c : Int)), .val (.lst []), x6, x7, x8, x9]) := by
  have h1 := rank_places (Φ := Φ) (ov := ov) (pl := pl) (ti := ti) hc top rest hn hl R W x5 x6 x7 x8 x9
  rw [hp, List.map_nil] at h1
  have h2 : cmpD .eq (.lst []) (.lst []) = some true := eq_nil (k := 0) (ds := []) rfl (by decide)
  have h0 : (0 : Nat) ≤ line := Nat.zero_le _
  generalize (top ++ rest).map frs = L at *
  simp [stepF, rankBody, h1, h2, h0]
theorem rank_some {ov pl ti w c b : Nat} (O : Ops Φ ov pl ti) (hw : w ≤ line) (hc : c < w) (top rest : List (List Rat)) (hn : top.length + rest.length ≤ 64) (hl : ∀ x ∈ rest, x.length = w)
    (hs : ∀ x ∈ rest, ∀ k, Sz b (gD x k)) (hb : 3 * b ≤ 2400) {r : List Rat} {ys : List (List Rat)} (hp : pick c rest = some (r, ys)) (R x4 x5 x6 x7 x8 x9 : SV) :
    ∃ x5' x7' x8', stepF Φ wf [4] (rankBody ov pl ti) (.int (c : Int)) [R, .mls ((top ++ rest).map frs), .val (.int (top.length : Int)), .val (.int (w : Int)), x4, x5, x6, x7, x8, x9] =
      some (.nx [R, .mls ((top ++ [r] ++ ys.map (clear w c r)).map frs), .val (.int ((top.length + 1 : Nat) : Int)), .val (.int (w : Int)), .val (.int (c : Int)), x5', .val (frs r), x7', x8', x9]) := by
  have hl64 : (64 : Nat) < line := by decide
  have h1 := rank_places (Φ := Φ) (ov := ov) (pl := pl) (ti := ti) hc top rest hn hl R (.val (.int (w : Int))) x5 x6 x7 x8 x9
  have hpp := pick_places (c := c) rest
  rw [hp] at hpp
  obtain ⟨j, js, e1, e2, e3⟩ := hpp
  obtain ⟨hr0, hmem⟩ := pick_some hp
  have hrm : r ∈ rest := (hmem r).mpr (.inl rfl)
  obtain ⟨hj, _⟩ := List.getElem?_eq_some_iff.mp e2
  rw [e1] at h1
  have h2 : cmpD .eq (.lst ((j :: js).map fun (k : Nat) => D.int ((top.length + k : Nat) : Int))) (.lst []) = some false := eq_nil (k := 0) (ints_okDs (j :: js) _) (by decide)
  have h3 : ixD (.lst ((j :: js).map fun (k : Nat) => D.int ((top.length + k : Nat) : Int))) (.int 0) = some (.int ((top.length + j : Nat) : Int)) := ix_lst (i := 0) rfl
  have h4 : okRng ((top.length + j : Nat) : Int) = true := okRng_nat (by omega)
  have h5 : ixN ((top ++ rest).map frs).length ((top.length + j : Nat) : Int) = some (top.length + j) := ixN_at (by simp; omega)
  have h6 : ((top ++ rest).map frs)[top.length + j]? = some (frs r) := by
    rw [List.getElem?_map, List.getElem?_append_right (by omega)]
    have : top.length + j - top.length = j := by omega
    rw [this, e2]; rfl
  have h7 : ((top ++ rest).map frs).eraseIdx (top.length + j) = (top ++ ys).map frs := by
    rw [eraseIdx_map', List.eraseIdx_append_of_length_le (by omega), e3]
    have : top.length + j - top.length = j := by omega
    rw [this]
  have hyl : ys.length + 1 = rest.length := by rw [e3, List.length_eraseIdx_of_lt hj]; omega
  have h8 : ((top ++ ys).map frs).take top.length ++ frs r :: ((top ++ ys).map frs).drop top.length = (top ++ [r] ++ ys).map frs := by
    rw [← List.map_take, ← List.map_drop, List.take_left' rfl, List.drop_left' rfl]; simp
  have h9 : ((top.length : Int)) ≤ (((top ++ ys).map frs).length : Int) := by simp; omega
  have h10 : ((top ++ ys).map frs).length < line := by simp; omega
  have hlr := hl r hrm
  have hly : ∀ x ∈ ys, x.length = w := fun x hx => hl x ((hmem x).mpr (.inr hx))
  have hsy : ∀ x ∈ ys, ∀ k, Sz b (gD x k) := fun x hx => hs x ((hmem x).mpr (.inr hx))
  generalize hP : D.lst ((j :: js).map fun (k : Nat) => D.int ((top.length + k : Nat) : Int)) = P at *
  have hPp : pure? P = some P := by rw [← hP]; rfl
  obtain ⟨x7', x8', hloop⟩ := clear_loop (wf := wf) O hw hc hlr hr0 (hs r hrm) hb R (.val (.int (top.length : Int))) (.val P) x9 ys (top ++ [r]) x7 x8 hly hsy
  have k1 := okRng_nat (n := top.length + 1) (by omega)
  have k2 := okRng_nat (n := (top ++ [r] ++ ys).length) (by simp; omega)
  have e4 : rng ((top.length + 1 : Nat) : Int) ((top ++ [r] ++ ys).length : Int) = (List.range' (top ++ [r]).length ys.length).map fun (k : Nat) => D.int (k : Int) := by
    unfold rng
    have : (((top ++ [r] ++ ys).length : Int) - ((top.length + 1 : Nat) : Int)).toNat = ys.length := by simp; omega
    rw [this, List.range'_eq_map_range, List.map_map]
    refine List.map_congr_left fun k _ => congrArg D.int ?_
    show (((top.length + 1 : Nat) : Int) + (k : Int)) = ((((top ++ [r]).length + k : Nat)) : Int)
    rw [List.length_append]
    simp
  have e5 : (((top ++ [r] ++ ys).map frs).length : Int) = ((top ++ [r] ++ ys).length : Int) := by rw [List.length_map]
  have e6 : ((top.length : Int)) + 1 = ((top.length + 1 : Nat) : Int) := rfl
  refine ⟨.val P, x7', x8', ?_⟩
  generalize ((top ++ [r] ++ ys).length : Int) = Z at *
  generalize (List.range' (top ++ [r]).length ys.length).map (fun (k : Nat) => D.int (k : Int)) = RG at *
  generalize hA : (top ++ rest).map frs = A at *
  generalize hB : (top ++ ys).map frs = B at *
  generalize hC : (top ++ [r] ++ ys).map frs = C at *
  generalize hD : (top ++ [r] ++ ys.map (clear w c r)).map frs = E at *
  generalize hT : ((top.length + 1 : Nat) : Int) = T at *
  generalize hJ : ((top.length + j : Nat) : Int) = J at *
  have t0 : (0 : Int) ≤ (top.length : Int) := by omega
  have t1 : ((top.length : Int)).toNat = top.length := Int.toNat_natCast _
  generalize hL : (top.length : Int) = LL at *
  have h0 : (0 : Nat) ≤ line := Nat.zero_le _
  simp [stepF, rankBody, evS_forF, h1, hPp, h2, h3, h4, h5, h6, h7, h8, h9, h10, t0, t1, k1, k2, e4, e5, e6, hloop, h0]
theorem rank_loop {ov pl ti w : Nat} (O : Ops Φ ov pl ti) (hw : w ≤ 5) (R : SV) : ∀ (m c : Nat) (top rest : List (List Rat)) (x4 x5 x6 x7 x8 x9 : SV), c + m = w → top.length + rest.length ≤ 64 →
    (∀ x ∈ rest, x.length = w) → (∀ x ∈ rest, ∀ k, Sz (rB c) (gD x k)) → ∃ L x4' x5' x6' x7' x8' x9',
    forM (stepF Φ wf [4] (rankBody ov pl ti)) ((List.range' c m).map fun (k : Nat) => D.int (k : Int)) [R, .mls ((top ++ rest).map frs), .val (.int (top.length : Int)), .val (.int (w : Int)), x4, x5, x6, x7, x8, x9] =
      some (.nx [R, .mls L, .val (.int ((top.length + rankF w m c rest : Nat) : Int)), .val (.int (w : Int)), x4', x5', x6', x7', x8', x9'])
  | 0, c, top, rest, x4, x5, x6, x7, x8, x9, _, _, _, _ => ⟨_, x4, x5, x6, x7, x8, x9, rfl⟩
  | m + 1, c, top, rest, x4, x5, x6, x7, x8, x9, e, hn, hl, hs => by
    have hwl : w ≤ line := Nat.le_trans hw (by decide)
    have hl0 : (List.range' c (m + 1)).map (fun (k : Nat) => D.int (k : Int)) = .int (c : Int) :: (List.range' (c + 1) m).map fun (k : Nat) => D.int (k : Int) := rfl
    rw [hl0, forM_cons]
    have hmono : rB c ≤ rB (c + 1) := by show rB c ≤ 4 * rB c + 1; omega
    cases hp : pick c rest with
    | none =>
      have hpp := pick_places (c := c) rest
      rw [hp] at hpp
      have hst := rank_none (Φ := Φ) (wf := wf) (ov := ov) (pl := pl) (ti := ti) (by omega : c < w) top rest hn hl hpp R (.val (.int (w : Int))) x4 x5 x6 x7 x8 x9
      rw [hst]
      have er : rankF w (m + 1) c rest = rankF w m (c + 1) rest := by
        conv => lhs; unfold rankF
        rw [hp]
      rw [er]
      exact rank_loop O hw R m (c + 1) top rest _ _ _ _ _ _ (by omega) hn hl fun x hx k => (hs x hx k).mono hmono
    | some q =>
      obtain ⟨r, ys⟩ := q
      obtain ⟨hr0, hmem⟩ := pick_some hp
      have hrm : r ∈ rest := (hmem r).mpr (.inl rfl)
      have hpp := pick_places (c := c) rest
      rw [hp] at hpp
      obtain ⟨j, js, e1, e2, e3⟩ := hpp
      obtain ⟨hj, _⟩ := List.getElem?_eq_some_iff.mp e2
      have hyl : ys.length + 1 = rest.length := by rw [e3, List.length_eraseIdx_of_lt hj]; omega
      obtain ⟨x5', x7', x8', hst⟩ := rank_some (wf := wf) O hwl (by omega : c < w) top rest hn hl hs (rB_le c (by omega)) hp R x4 x5 x6 x7 x8 x9
      rw [hst]
      have er : rankF w (m + 1) c rest = rankF w m (c + 1) (ys.map (clear w c r)) + 1 := by
        conv => lhs; unfold rankF
        rw [hp]
      have ih := rank_loop O hw R m (c + 1) (top ++ [r]) (ys.map (clear w c r)) (.val (.int (c : Int))) x5' (.val (frs r)) x7' x8' x9 (by omega) (by simp; omega)
        (fun x hx => by obtain ⟨z, _, rfl⟩ := List.mem_map.mp hx; simp [clear])
        (fun x hx k => by
          obtain ⟨z, hz, rfl⟩ := List.mem_map.mp hx
          have hzr : z ∈ rest := (hmem z).mpr (.inr hz)
          rw [clear_at (hl r hrm) (hl z hzr)]
          exact ((hs z hzr k).add ((((hs z hzr c).div (hs r hrm c) hr0).neg).mul (hs r hrm k))).mono (by show _ ≤ 4 * rB c + 1; omega))
      have e7 : (top ++ [r]).length = top.length + 1 := by simp
      have e8 : top.length + 1 + rankF w m (c + 1) (ys.map (clear w c r)) = top.length + rankF w (m + 1) c rest := by rw [er]; omega
      rw [e7, e8] at ih
      exact ih
end
theorem run_rank {tab : List Fd} {wf t ov pl ti N w : Nat} (ht : tab[t]? = some (rankFd ov pl ti)) (O : Ops (run tab wf N) ov pl ti) (hw : w ≤ 5) {rows : List (List Rat)} (hn : rows.length ≤ 64)
    (hl : ∀ x ∈ rows, x.length = w) (hs : ∀ x ∈ rows, ∀ k, Sz 2 (gD x k)) : run tab wf (N + 1) t [.lst (rows.map frs)] = some (.int ((rankF w w 0 rows : Nat) : Int)) := by
  have hl64 : (64 : Nat) < line := by decide
  have hwl : w ≤ line := Nat.le_trans hw (by decide)
  have h1 : evE (run tab wf N) (.comp (.prim .list (.cons (.slot 6) .nil)) [6] (.seq (.slot 0)) .nil [6]) [.val (.lst (rows.map frs)), .non, .non, .non, .non, .non, .non, .non, .non, .non] = some (.lst (rows.map frs)) := by
    rw [comp_seq (g := fun d => d) (ds := rows.map frs) (d := .lst (rows.map frs)) rfl rfl (by simp; omega)]
    · simp
    · intro d hd
      obtain ⟨x, _, rfl⟩ := List.mem_map.mp hd
      simp [frs]
      rfl
  have ok : okDs 3 (rows.map frs) = true := okDs_of fun d hd => by obtain ⟨x, _, rfl⟩ := List.mem_map.mp hd; exact ok_frs x 1
  have h2 := ne_own ok (by decide)
  have h0 : (0 : Nat) ≤ line := Nat.zero_le _
  refine run_rt [.val (.lst (rows.map frs)), .non, .non, .non, .non, .non, .non, .non, .non, .non] ht rfl rfl ?_
  cases rows with
  | nil =>
    rw [rankF_nil]
    rw [List.map_nil] at h1 h2 ⊢
    have h3 : okRng 0 = true := by decide
    have h4 : rng 0 0 = [] := rfl
    simp [rankFd, fresh, h1, h2, h0, evS_forF, h3, h4]
  | cons x xs =>
    obtain ⟨L, x4', x5', x6', x7', x8', x9', hloop⟩ := rank_loop (wf := wf) O hw (.val (.lst ((x :: xs).map frs))) w 0 [] (x :: xs) .non .non .non .non .non .non (by omega) (by simpa using hn) hl (fun y hy k => hs y hy k)
    have h3 : ixD (.own ((x :: xs).map frs)) (.int 0) = some (frs x) := ix_own (i := 0) rfl
    have h4 := hl x (List.mem_cons_self ..)
    have h5 := okRng_nat hwl
    have h6 : rng 0 (w : Int) = (List.range' 0 w).map fun (k : Nat) => D.int (k : Int) := by rw [rng_nat, List.range_eq_range']
    rw [List.nil_append, List.length_nil, Nat.zero_add] at hloop
    have h7 : ((x :: xs).map frs).isEmpty = false := rfl
    rw [h7] at h2
    generalize (x :: xs).map frs = A at *
    generalize rankF w w 0 (x :: xs) = Q at *
    simp at hloop
    simp [rankFd, fresh, h1, h2, h0, h3, h4, evS_forF, h5, h6, hloop]
end MP

/-! the law's draws: cells and rows of numbers; equations. -/
namespace MP
open PySem L2
def cellFd : Fd := ⟨2, 2, (.cons (.ifS (.cmp .lt (.slot 1) (.prim .len (.cons (.slot 0) .nil))) (.cons (.ret (.bin .mod (.prim .abs (.cons (.prim .int (.cons (.idx (.slot 0) (.slot 1)) .nil)) .nil)) (.bin .pow (.cint 10) (.cint 60)))) .nil) .nil) (.cons (.ret (.cint 0)) .nil))⟩
def drawBody : Ss := (.cons (.ifS (.cmp .ge (.slot 0) (.bin .pow (.cint 10) (.cint 18))) (.cons (.app 3 (.bin .mod (.prim .int (.cons (.slot 4) .nil)) (.slot 2))) (.cons (.set 4 (.bin .fdiv (.slot 4) (.slot 2))) .nil)) (.cons (.set 6 (.bin .mod (.bin .add (.bin .add (.bin .mul (.bin .mod (.prim .int (.cons (.slot 0) .nil)) (.cint 1000003)) (.cint 48271)) (.bin .mul (.slot 5) (.cint 69621))) (.bin .fdiv (.slot 0) (.cint 1000003))) (.cint 2147483647))) (.cons (.set 6 (.bin .mod (.bin .add (.bin .add (.bin .mul (.slot 6) (.cint 16807)) (.bin .mul (.slot 5) (.cint 12345))) (.cint 99991)) (.cint 2147483629))) (.cons (.app 3 (.bin .mod (.bin .fdiv (.slot 6) (.cint 7)) (.slot 2))) .nil)))) .nil)
def drawFd : Fd := ⟨3, 7, (.cons (.setM 3 (.lst .nil)) (.cons (.set 4 (.slot 0)) (.cons (.forS [5] (.rng1 (.slot 1)) drawBody) (.cons (.frz 3) (.cons (.ret (.slot 3)) .nil)))))⟩
theorem pow_of {i : Int} {j : Nat} (h1 : (j : Int) ≤ 1000000) (h2 : i.natAbs < 2 ^ 64) (h3 : 0 < i) : ∃ P : Int, 0 < P ∧ binD .pow (.int i) (.int (j : Int)) = some (.int P) := by
  refine ⟨i ^ j, Int.pow_pos h3, ?_⟩
  have h0 : (0 : Int) ≤ (j : Int) := by omega
  simp only [binD, decide_eq_true h0, decide_eq_true h1, decide_eq_true h2, Bool.and_self, if_true, Int.toNat_natCast]
theorem bi_fmod {a m : Int} {k : Nat} (h : 0 < m) (hm : m ≤ 2 ^ k) : Bi k (a.fmod m) := by
  have h1 := Int.fmod_nonneg_of_pos a h
  have h2 := Int.fmod_lt_of_pos a h
  unfold Bi
  have : ((2 ^ k : Nat) : Int) = (2 : Int) ^ k := by simp
  omega
section
variable {tab : List Fd} {wf : Nat}
theorem run_cell {t N : Nat} (ht : tab[t]? = some cellFd) {ns : List Int} {k : Nat} : ∃ z : Int, run tab wf (N + 1) t [.lst (ns.map .int), .int (k : Int)] = some (.int z) := by
  obtain ⟨P, hP, hp⟩ := pow_of (i := 10) (j := 60) (by decide) (by decide) (by decide)
  have hP0 : P ≠ 0 := by omega
  by_cases h : k < ns.length
  · refine ⟨((ns[k].natAbs : Int)).fmod P, run_rt [.val (.lst (ns.map .int)), .val (.int (k : Int))] ht rfl rfl ?_⟩
    have h1 : ixD (.lst (ns.map .int)) (.int (k : Int)) = some (.int ns[k]) := ix_lst (by simp [h])
    have h2 : (k : Int) < (ns.length : Int) := by omega
    have hp' : binD .pow (.int 10) (.int 60) = some (.int P) := hp
    simp [cellFd, h, h1, hp', bin_mod hP0]
  · refine ⟨0, run_rt [.val (.lst (ns.map .int)), .val (.int (k : Int))] ht rfl rfl ?_⟩
    simp [cellFd, h]
theorem draw_turn {Φ : Nat → List D → Option D} {z num : Int} {k : Nat} (hk : k ≤ 64) {ds : List Int} (hd : ds.length ≤ 64) (S x5 x6 : SV) : ∃ d num' x6',
    stepF Φ wf [5] drawBody (.int (k : Int)) [.val (.int z), S, .val (.int 1000), .mls (ds.map .int), .val (.int num), x5, x6] =
      some (.nx [.val (.int z), S, .val (.int 1000), .mls ((ds ++ [d]).map .int), .val (.int num'), .val (.int (k : Int)), x6']) := by
  obtain ⟨P, hP, hp⟩ := pow_of (i := 10) (j := 18) (by decide) (by decide) (by decide)
  have hp' : binD .pow (.int 10) (.int 18) = some (.int P) := hp
  have hl64 : (64 : Nat) < line := by decide
  have hl : ds.length < line := by omega
  by_cases h : P ≤ z
  · refine ⟨num.fmod 1000, num.fdiv 1000, x6, ?_⟩
    simp [stepF, drawBody, hp', h, bin_mod, bin_fdiv (i := num) (j := 1000) (by decide) (by decide), hl]
  · have m1 : mulOk (z.fmod 1000003) 48271 = true := mulOk_of (bi_fmod (k := 20) (by decide) (by decide)) (show Bi 16 48271 by unfold Bi; decide) (by decide)
    have hbk : Bi 7 (k : Int) := by unfold Bi; omega
    have m2 : mulOk (k : Int) 69621 = true := mulOk_of hbk (show Bi 17 69621 by unfold Bi; decide) (by decide)
    have m4 : mulOk (k : Int) 12345 = true := mulOk_of hbk (show Bi 17 12345 by unfold Bi; decide) (by decide)
    have m3 : ∀ a : Int, mulOk (a.fmod 2147483647) 16807 = true := fun a => mulOk_of (bi_fmod (k := 31) (by decide) (by decide)) (show Bi 15 16807 by unfold Bi; decide) (by decide)
    obtain ⟨a, ha⟩ : ∃ a, (z.fmod 1000003 * 48271 + (k : Int) * 69621 + z.fdiv 1000003).fmod 2147483647 = a := ⟨_, rfl⟩
    have m3' : mulOk a 16807 = true := ha ▸ m3 _
    obtain ⟨b, hb⟩ : ∃ b, (a * 16807 + (k : Int) * 12345 + 99991).fmod 2147483629 = b := ⟨_, rfl⟩
    refine ⟨(b.fdiv 7).fmod 1000, num, .val (.int b), ?_⟩
    simp [stepF, drawBody, hp', h, bin_mod, bin_mul m1, bin_mul m2, bin_mul m4, bin_mul m3', ha, hb, bin_fdiv (i := z) (j := 1000003) (by decide) (by decide), bin_fdiv (i := b) (j := 7) (by decide) (by decide), hl]
theorem run_draw {t N : Nat} (ht : tab[t]? = some drawFd) (z : Int) {n : Nat} (hn : n ≤ 64) : ∃ ds : List Int, ds.length = n ∧ run tab wf (N + 1) t [.int z, .int (n : Int), .int 1000] = some (.lst (ds.map .int)) := by
  have loop : ∀ (m k : Nat) (ds : List Int) (num : Int) (x5 x6 : SV), k + m = n → ds.length = k → ∃ (es : List Int) (num' : Int) (x5' x6' : SV), es.length = n ∧
      forM (stepF (run tab wf N) wf [5] drawBody) ((List.range' k m).map fun (i : Nat) => D.int (i : Int)) [.val (.int z), .val (.int (n : Int)), .val (.int 1000), .mls (ds.map .int), .val (.int num), x5, x6] =
      some (.nx [.val (.int z), .val (.int (n : Int)), .val (.int 1000), .mls (es.map .int), .val (.int num'), x5', x6']) := by
    intro m
    induction m with
    | zero => intro k ds num x5 x6 e hd; exact ⟨ds, num, x5, x6, by omega, rfl⟩
    | succ m ih =>
      intro k ds num x5 x6 e hd
      obtain ⟨d, num', x6', hs⟩ := draw_turn (wf := wf) (Φ := run tab wf N) (z := z) (num := num) (by omega : k ≤ 64) (by omega : ds.length ≤ 64) (.val (.int (n : Int))) x5 x6
      have hl : (List.range' k (m + 1)).map (fun (i : Nat) => D.int (i : Int)) = .int (k : Int) :: (List.range' (k + 1) m).map fun (i : Nat) => D.int (i : Int) := rfl
      rw [hl, forM_cons, hs]
      exact ih (k + 1) (ds ++ [d]) num' _ x6' (by omega) (by simp; omega)
  obtain ⟨es, num', x5', x6', he, hs⟩ := loop n 0 [] z .non .non (by omega) rfl
  refine ⟨es, he, run_rt [.val (.int z), .val (.int (n : Int)), .val (.int 1000), .non, .non, .non, .non] ht rfl rfl ?_⟩
  have h0 : (0 : Nat) ≤ line := Nat.zero_le _
  have h5 := okRng_nat (n := n) (Nat.le_trans hn (by decide))
  have h6 : rng 0 (n : Int) = (List.range' 0 n).map fun (k : Nat) => D.int (k : Int) := by rw [rng_nat, List.range_eq_range']
  rw [List.map_nil] at hs
  simp [drawFd, fresh, h0, evS_forF, h5, h6, hs]
end
end MP

/-! the law's equations. -/
namespace MP
open PySem L2
theorem fr_int (z : Int) : D.tup [.int z, .int 1] = fr (z : Rat) := by simp [fr]
def Small (q : Rat) : Prop := ∃ z : Int, q = (z : Rat) ∧ z.natAbs ≤ 2
theorem Small.zero : Small 0 := ⟨0, by simp, by decide⟩
theorem Small.inn {q : Rat} (h : Small q) : In 1 2 q := by
  obtain ⟨z, rfl, hz⟩ := h
  exact ⟨z, by simp, hz⟩
theorem Small.sz {q : Rat} (h : Small q) : Sz 2 q := h.inn.sz (by decide) (by decide) (by decide)
theorem small_gD {c : List Rat} (h : ∀ x ∈ c, Small x) (k : Nat) : Small (gD c k) := by
  by_cases hk : k < c.length
  · rw [gD_lt hk]; exact h _ (List.getElem_mem hk)
  · rw [gD_past (by omega)]; exact .zero
theorem Small.mul3 {q : Rat} (h : Small q) {a : Int} (ha : a.natAbs ≤ 1) : Small ((a : Rat) * q) := by
  obtain ⟨z, rfl, hz⟩ := h
  refine ⟨a * z, by rw [Rat.intCast_mul], ?_⟩
  rw [Int.natAbs_mul]
  exact Nat.mul_le_mul ha hz
theorem fmod_small {a m : Int} (h : 0 < m) : 0 ≤ a.fmod m ∧ a.fmod m < m := ⟨Int.fmod_nonneg_of_pos a h, Int.fmod_lt_of_pos a h⟩
theorem In.add {D M N : Nat} {a b : Rat} (h : In D M a) (h' : In D N b) : In D (M + N) (a + b) := by
  obtain ⟨n, e, l⟩ := h
  obtain ⟨n', e', l'⟩ := h'
  refine ⟨n + n', ?_, by omega⟩
  rw [Rat.intCast_add, ← e, ← e']; grind
structure Pt (w : Nat) (pt : List Rat) : Prop where
  len : pt.length = w
  i : ∀ x ∈ pt, In 12 108 x
theorem Pt.at {w : Nat} {pt : List Rat} (h : Pt w pt) (k : Nat) : In 12 108 (gD pt k) := by
  by_cases hk : k < pt.length
  · rw [gD_lt hk]; exact h.i _ (List.getElem_mem hk)
  · rw [gD_past (by omega)]; exact .zero _ _
theorem dot_in {c pt : List Rat} {w : Nat} (hc : ∀ x ∈ c, Small x) (hp : Pt w pt) : ∀ k, In 12 (k * 216) (dot k (gD c) (gD pt))
  | 0 => In.zero _ _
  | k + 1 => by
    have h1 := dot_in hc hp k
    have h2 : In (1 * 12) (2 * 108) (gD c k * gD pt k) := (small_gD hc k).inn.mul (hp.at k)
    have := h1.add (h2 : In 12 216 _)
    rw [Nat.succ_mul]
    exact this
structure Good (w : Nat) (pt : List Rat) (e : Eqn) : Prop where
  lc : e.c.length = w
  sm : ∀ x ∈ e.c, Small x
  dot : dot w (gD e.c) (gD pt) = e.b
theorem eqs_of {w : Nat} {pt : List Rat} {es : List Eqn} (hw : w ≤ 5) (hp : Pt w pt) (h6 : es.length ≤ 6) (h : ∀ e ∈ es, Good w pt e) : Eqs w (gD pt) es := by
  refine ⟨h6, fun e he => (h e he).lc, fun e he => (h e he).dot, fun e he k => ?_, fun e he => ?_⟩
  · have := (small_gD (h e he).sm k).inn.scale (k := 12)
    exact In.mono (this : In 12 24 _) (by decide)
  · rw [← (h e he).dot]
    exact (dot_in (h e he).sm hp w).mono (by omega)
def boundBody (pl ti : Nat) : Ss := (.cons (.set 9 (.call pl (.cons (.slot 9) (.cons (.call ti (.cons (.idx (.slot 8) (.slot 10)) (.cons (.idx (.slot 4) (.slot 10)) .nil)) []) .nil)) [])) .nil)
def eqnsTail (pl ti : Nat) : Ss := (.cons (.set 9 (.tup (.cons (.cint 0) (.cons (.cint 1) .nil)))) (.cons (.forS [10] (.rng1 (.slot 2)) (boundBody pl ti)) (.cons (.app 5 (.tup (.cons (.slot 8) (.cons (.slot 9) .nil)))) .nil)))
def eqnsBody (ro ce pl ti : Nat) : Ss := (.cons (.set 7 (.call ro (.cons (.call ce (.cons (.slot 0) (.cons (.bin .add (.slot 1) (.slot 6)) .nil)) []) (.cons (.bin .add (.slot 2) (.cint 2)) (.cons (.cint 1000) .nil))) [])) (.cons (.set 8 (.comp (.tup (.cons (.bin .sub (.bin .mod (.idx (.slot 7) (.slot 10)) (.cint 5)) (.cint 2)) (.cons (.cint 1) .nil))) [10] (.rng1 (.slot 2)) .nil [10])) (.cons (.ifS (.and (.cons (.cmp .ne (.slot 5) (.lst .nil)) (.cons (.cmp .eq (.bin .mod (.idx (.slot 7) (.slot 2)) (.cint 4)) (.cint 0)) .nil))) (.cons (.set 11 (.idx (.idx (.slot 5) (.bin .mod (.bin .fdiv (.idx (.slot 7) (.slot 2)) (.cint 4)) (.prim .len (.cons (.slot 5) .nil)))) (.cint 0))) (.cons (.set 8 (.comp (.call ti (.cons (.tup (.cons (.bin .sub (.bin .mod (.idx (.slot 7) (.bin .add (.slot 2) (.cint 1))) (.cint 3)) (.cint 1)) (.cons (.cint 1) .nil))) (.cons (.slot 12) .nil)) []) [12] (.seq (.slot 11)) .nil [12])) .nil)) .nil) (eqnsTail pl ti))))
def eqnsFd (ro ce pl ti : Nat) : Fd := ⟨5, 13, (.cons (.setM 5 (.lst .nil)) (.cons (.forS [6] (.rng1 (.slot 3)) (eqnsBody ro ce pl ti)) (.cons (.frz 5) (.cons (.ret (.slot 5)) .nil))))⟩
section
variable {Φ : Nat → List D → Option D} {wf : Nat} {ρ : Rho}
theorem comp_seq_map {α : Type} {f g : α → D} {xs : List α} {elt e : E} {j : Nat} {d : D} (ha : evE Φ e ρ = some d) (hd : lst? d = some (xs.map f)) (hn : xs.length ≤ line)
    (h : ∀ x ∈ xs, (evE Φ elt (ρ.set j (.val (f x)))).bind pure? = some (g x)) : evE Φ (.comp elt [j] (.seq e) .nil [j]) ρ = some (.lst (xs.map g)) := by
  rw [ev_comp]
  simp only [evIt_seq, ha, hd]
  have : compM (stepC Φ elt [j] .nil [j] ρ) (xs.map f) = some (xs.map g) := by
    clear ha hd hn
    induction xs with
    | nil => rfl
    | cons x xs ih =>
      have h1 := h x (List.mem_cons_self ..)
      have h2 := ih fun y hy => h y (List.mem_cons_of_mem _ hy)
      have h3 : stepC Φ elt [j] .nil [j] ρ (f x) = some (some (g x)) := by simp only [stepC, wipeR_one, setTg_name, List.set_set, evTs_nil, h1]
      rw [List.map_cons, List.map_cons]
      unfold compM
      rw [h3, h2]
  rw [this]
  simp [hn]
theorem bound_loop {ov pl ti w : Nat} (O : Ops Φ ov pl ti) (hw : w ≤ 5) {c pt : List Rat} (hc : c.length = w) (sc : ∀ x ∈ c, Small x) (hp : Pt w pt) (a0 a1 a2 a3 a5 a6 a7 a11 a12 : SV) : ∀ (m k : Nat) (x10 : SV), k + m = w → ∃ x10',
    forM (stepF Φ wf [10] (boundBody pl ti)) ((List.range' k m).map fun (k : Nat) => D.int (k : Int)) [a0, a1, a2, a3, .val (frs pt), a5, a6, a7, .val (frs c), .val (fr (dot k (gD c) (gD pt))), x10, a11, a12] =
      some (.nx [a0, a1, a2, a3, .val (frs pt), a5, a6, a7, .val (frs c), .val (fr (dot w (gD c) (gD pt))), x10', a11, a12])
  | 0, k, x10, e => ⟨x10, by rw [← e]; rfl⟩
  | m + 1, k, x10, e => by
    have hl0 : (List.range' k (m + 1)).map (fun (k : Nat) => D.int (k : Int)) = .int (k : Int) :: (List.range' (k + 1) m).map fun (k : Nat) => D.int (k : Int) := rfl
    have hkc : k < c.length := by omega
    have hkp : k < pt.length := by rw [hp.len]; omega
    have s1 : Sz 12 (gD pt k) := (hp.at k).sz (by decide) (by decide) (by decide)
    have s2 : Sz 2 (gD c k) := (small_gD sc k).sz
    have s3 : Sz 12 (dot k (gD c) (gD pt)) := (dot_in sc hp k).sz (by decide) (by decide) (by omega)
    have t1 := O.ti (gD c k) (gD pt k) (s2.mono (by decide)) (s1.mono (by decide))
    have t2 := O.pl (dot k (gD c) (gD pt)) (gD c k * gD pt k) (s3.mono (by decide)) ((s2.mul s1).mono (by decide))
    have hst : stepF Φ wf [10] (boundBody pl ti) (.int (k : Int)) [a0, a1, a2, a3, .val (frs pt), a5, a6, a7, .val (frs c), .val (fr (dot k (gD c) (gD pt))), x10, a11, a12] =
        some (.nx [a0, a1, a2, a3, .val (frs pt), a5, a6, a7, .val (frs c), .val (fr (dot k (gD c) (gD pt) + gD c k * gD pt k)), .val (.int (k : Int)), a11, a12]) := by
      generalize dot k (gD c) (gD pt) = B at *
      simp [stepF, boundBody, ix_frs' hkc, ix_frs' hkp, t1, t2]
    rw [hl0, forM_cons, hst]
    exact bound_loop O hw hc sc hp a0 a1 a2 a3 a5 a6 a7 a11 a12 m (k + 1) (.val (.int (k : Int))) (by omega)
theorem tail_run {ov pl ti w : Nat} (O : Ops Φ ov pl ti) (hw : w ≤ 5) {c pt : List Rat} (hc : c.length = w) (sc : ∀ x ∈ c, Small x) (hp : Pt w pt) {es : List Eqn} (he : es.length ≤ 6) (a0 a1 a3 a6 a7 a9 a10 a11 a12 : SV) : ∃ a9' a10',
    evSs Φ wf (eqnsTail pl ti) [a0, a1, .val (.int (w : Int)), a3, .val (frs pt), .mls (es.map eqnD), a6, a7, .val (frs c), a9, a10, a11, a12] =
      some (.nx [a0, a1, .val (.int (w : Int)), a3, .val (frs pt), .mls ((es ++ [Eqn.mk c (dot w (gD c) (gD pt))]).map eqnD), a6, a7, .val (frs c), a9', a10', a11, a12]) := by
  obtain ⟨x10', hloop⟩ := bound_loop (wf := wf) O hw hc sc hp a0 a1 (.val (.int (w : Int))) a3 (.mls (es.map eqnD)) a6 a7 a11 a12 w 0 a10 (by omega)
  have h5 := okRng_nat (n := w) (Nat.le_trans hw (by decide))
  have h6 : rng 0 (w : Int) = (List.range' 0 w).map fun (k : Nat) => D.int (k : Int) := by rw [rng_nat, List.range_eq_range']
  have h2 : (2 : Nat) ≤ line := by decide
  have h7 : fr (dot 0 (gD c) (gD pt)) = D.tup [.int 0, .int 1] := rfl
  have h8 : es.length < line := Nat.lt_of_le_of_lt he (by decide)
  have h9 : (es ++ [Eqn.mk c (dot w (gD c) (gD pt))]).map eqnD = es.map eqnD ++ [D.tup [frs c, fr (dot w (gD c) (gD pt))]] := by simp [eqnD]
  rw [h7] at hloop
  refine ⟨.val (fr (dot w (gD c) (gD pt))), x10', ?_⟩
  rw [h9]
  generalize dot w (gD c) (gD pt) = B at *
  simp [eqnsTail, evS_forF, h2, h5, h6, hloop, h8]
theorem eqns_turn {ro ce ov pl ti w : Nat} (O : Ops Φ ov pl ti) (hw : w ≤ 5) {pt : List Rat} (hp : Pt w pt) {S : D} {k : Nat}
    (hS : pure? S = some S)
    (hro : ∀ z : Int, ∃ ds : List Int, ds.length = w + 2 ∧ Φ ro [.int z, .int ((w + 2 : Nat) : Int), .int 1000] = some (.lst (ds.map .int)))
    (hce : ∀ k : Nat, ∃ z : Int, Φ ce [S, .int (k : Int)] = some (.int z))
    {es : List Eqn} (hn : es.length ≤ 6) (he : ∀ e ∈ es, Good w pt e) (a3 a6 a7 a8 a9 a10 a11 a12 : SV) : ∃ e a7' a8' a9' a10' a11', Good w pt e ∧
    stepF Φ wf [6] (eqnsBody ro ce pl ti) (.int (k : Int)) [.val S, .val (.int 2), .val (.int (w : Int)), a3, .val (frs pt), .mls (es.map eqnD), a6, a7, a8, a9, a10, a11, a12] =
      some (.nx [.val S, .val (.int 2), .val (.int (w : Int)), a3, .val (frs pt), .mls ((es ++ [e]).map eqnD), .val (.int (k : Int)), a7', a8', a9', a10', a11', a12]) := by
  obtain ⟨z, hz⟩ := hce (2 + k)
  obtain ⟨ds, hds, hdr⟩ := hro z
  have hz' : Φ ce [S, .int (2 + (k : Int))] = some (.int z) := hz
  have hdr' : Φ ro [.int z, .int ((w : Int) + 2), .int 1000] = some (.lst (ds.map .int)) := hdr
  have hwl : w ≤ line := Nat.le_trans hw (by decide)
  have h2 : (2 : Nat) ≤ line := by decide
  have h0 : (0 : Nat) ≤ line := Nat.zero_le _
  have hat : ∀ i : Nat, i < w + 2 → ixD (.lst (ds.map .int)) (.int (i : Int)) = some (.int (ds.getD i 0)) := fun i hi => ix_lst (by
    rw [List.getElem?_map, List.getElem?_eq_getElem (by omega), List.getD_eq_getElem?_getD, List.getElem?_eq_getElem (by omega)]; rfl)
  have hrow : evE Φ (.comp (.tup (.cons (.bin .sub (.bin .mod (.idx (.slot 7) (.slot 10)) (.cint 5)) (.cint 2)) (.cons (.cint 1) .nil))) [10] (.rng1 (.slot 2)) .nil [10])
      [.val S, .val (.int 2), .val (.int (w : Int)), a3, .val (frs pt), .mls (es.map eqnD), .val (.int (k : Int)), .val (.lst (ds.map .int)), a8, a9, a10, a11, a12] = some (frs ((List.range w).map fun i => (((ds.getD i 0).fmod 5 - 2 : Int) : Rat))) := by
    rw [comp_range (n := w) (g := fun i => fr (((ds.getD i 0).fmod 5 - 2 : Int) : Rat))]
    · simp [frs]
    · simp
    · exact hwl
    · intro i hi
      have h3 := hat i (by omega)
      have h4 := fr_int ((ds.getD i 0).fmod 5 - 2)
      generalize ds.getD i 0 = X at *
      generalize D.lst (ds.map .int) = DS at *
      simp only [List.set_cons_succ, List.set_cons_zero, List.set_nil]
      simp [h3, h2, bin_mod, -Rat.intCast_sub]
      rw [h4]
  have hsm1 : ∀ x ∈ (List.range w).map fun i => (((ds.getD i 0).fmod 5 - 2 : Int) : Rat), Small x := by
    intro x hx
    obtain ⟨i, _, rfl⟩ := List.mem_map.mp hx
    have := fmod_small (a := ds.getD i 0) (m := 5) (by decide)
    exact ⟨_, rfl, by omega⟩
  have hlen1 : ((List.range w).map fun i => (((ds.getD i 0).fmod 5 - 2 : Int) : Rat)).length = w := by simp
  have okE : okDs 4 (es.map eqnD) = true := okDs_of fun d hd => by
    obtain ⟨e, _, rfl⟩ := List.mem_map.mp hd
    show okDs 3 [frs e.c, fr e.b] = true
    exact okDs_of fun d hd => by
      simp at hd
      rcases hd with rfl | rfl
      · exact ok_frs _ 1
      · exact ok_fr _ 2
  have hne := ne_own okE (by decide)
  have hP : pure? (D.lst (ds.map D.int)) = some (D.lst (ds.map D.int)) := rfl
  have hw0 := hat w (by omega)
  have hw1 := hat (w + 1) (by omega)
  have hw1' : ixD (.lst (ds.map .int)) (.int ((w : Int) + 1)) = some (.int (ds.getD (w + 1) 0)) := hw1
  generalize (List.range w).map (fun i => (((ds.getD i 0).fmod 5 - 2 : Int) : Rat)) = c1 at *
  generalize ds.getD w 0 = X at *
  generalize ds.getD (w + 1) 0 = Y at *
  by_cases hcond : es ≠ [] ∧ X.fmod 4 = 0
  · obtain ⟨hes, hX⟩ := hcond
    have hpos : 0 < es.length := List.length_pos_iff.mpr hes
    have hi := fmod_small (a := X.fdiv 4) (m := (es.length : Int)) (by omega)
    obtain ⟨i, hi'⟩ : ∃ i : Nat, (X.fdiv 4).fmod (es.length : Int) = (i : Int) := ⟨((X.fdiv 4).fmod (es.length : Int)).toNat, by omega⟩
    have hil : i < es.length := by omega
    have hix : ixD (.own (es.map eqnD)) (.int (i : Int)) = some (eqnD es[i]) := ix_own (by simp [hil])
    have hg := he es[i] (List.getElem_mem hil)
    have hne' : es.isEmpty = false := by simp [hes]
    have hlne : ((es.length : Int)) ≠ 0 := by omega
    have hbm : binD .mod (.int (X.fdiv 4)) (.int (es.length : Int)) = some (.int (i : Int)) := by rw [bin_mod hlne, hi']
    have hf := fmod_small (a := Y) (m := 3) (by decide)
    have hrow2 : evE Φ (.comp (.call ti (.cons (.tup (.cons (.bin .sub (.bin .mod (.idx (.slot 7) (.bin .add (.slot 2) (.cint 1))) (.cint 3)) (.cint 1)) (.cons (.cint 1) .nil))) (.cons (.slot 12) .nil)) []) [12] (.seq (.slot 11)) .nil [12])
        [.val S, .val (.int 2), .val (.int (w : Int)), a3, .val (frs pt), .mls (es.map eqnD), .val (.int (k : Int)), .val (.lst (ds.map .int)), .val (frs c1), a9, a10, .val (frs es[i].c), a12] = some (frs (es[i].c.map fun x => ((Y.fmod 3 - 1 : Int) : Rat) * x)) := by
      rw [comp_seq_map (f := fr) (xs := es[i].c) (g := fun x => fr (((Y.fmod 3 - 1 : Int) : Rat) * x)) (d := frs es[i].c) (by simp) rfl (by rw [hg.lc]; exact hwl)]
      · simp [frs]
      · intro x hx
        have h4 := fr_int (Y.fmod 3 - 1)
        have s1 : Sz 2 (((Y.fmod 3 - 1 : Int) : Rat)) := Small.sz ⟨_, rfl, by omega⟩
        have t1 := O.ti (((Y.fmod 3 - 1 : Int) : Rat)) x (s1.mono (by decide)) ((hg.sm x hx).sz.mono (by decide))
        generalize ((Y.fmod 3 - 1 : Int) : Rat) = Q at *
        generalize D.lst (ds.map .int) = DS at *
        simp [hw1', bin_mod, h2, h4, t1]
    have hsm2 : ∀ x ∈ es[i].c.map (fun x => ((Y.fmod 3 - 1 : Int) : Rat) * x), Small x := by
      intro x hx
      obtain ⟨y, hy, rfl⟩ := List.mem_map.mp hx
      exact (hg.sm y hy).mul3 (by omega)
    have hlen2 : (es[i].c.map (fun x => ((Y.fmod 3 - 1 : Int) : Rat) * x)).length = w := by rw [List.length_map]; exact hg.lc
    generalize es[i].c.map (fun x => ((Y.fmod 3 - 1 : Int) : Rat) * x) = c2 at *
    obtain ⟨a9', a10', htail⟩ := tail_run (wf := wf) O hw hlen2 hsm2 hp hn (.val S) (.val (.int 2)) a3 (.val (.int (k : Int))) (.val (.lst (ds.map .int))) a9 a10 (.val (frs es[i].c)) a12
    refine ⟨⟨c2, dot w (gD c2) (gD pt)⟩, _, _, a9', a10', _, ⟨hlen2, hsm2, rfl⟩, Eq.trans ?_ htail⟩
    have hlE : (es.map eqnD).length = es.length := List.length_map ..
    have hisE : (es.map eqnD).isEmpty = false := by rw [List.isEmpty_map]; exact hne'
    generalize es.map eqnD = EE at *
    generalize D.lst (ds.map .int) = DS at *
    simp [stepF, eqnsBody, hS, hz', hdr', hP, hrow, hne, hisE, h0, hw0, bin_mod, hX, bin_fdiv (i := X) (j := 4) (by decide) (by decide), hlE, hbm, hix, hrow2]
  · obtain ⟨a9', a10', htail⟩ := tail_run (wf := wf) O hw hlen1 hsm1 hp hn (.val S) (.val (.int 2)) a3 (.val (.int (k : Int))) (.val (.lst (ds.map .int))) a9 a10 a11 a12
    refine ⟨⟨c1, dot w (gD c1) (gD pt)⟩, _, _, a9', a10', _, ⟨hlen1, hsm1, rfl⟩, Eq.trans ?_ htail⟩
    by_cases hes : es = []
    · have hisE : (es.map eqnD).isEmpty = true := by rw [List.isEmpty_map]; simp [hes]
      generalize es.map eqnD = EE at *
      generalize D.lst (ds.map .int) = DS at *
      simp [stepF, eqnsBody, hS, hz', hdr', hP, hrow, hne, hisE, h0]
    · have hX : X.fmod 4 ≠ 0 := fun h => hcond ⟨hes, h⟩
      have hisE : (es.map eqnD).isEmpty = false := by rw [List.isEmpty_map]; simp [hes]
      generalize es.map eqnD = EE at *
      generalize D.lst (ds.map .int) = DS at *
      simp [stepF, eqnsBody, hS, hz', hdr', hP, hrow, hne, hisE, h0, hw0, bin_mod, hX]
theorem run_eqns {tab : List Fd} {t ro ce ov pl ti w N : Nat} (ht : tab[t]? = some (eqnsFd ro ce pl ti)) (O : Ops (run tab wf N) ov pl ti) (hw : w ≤ 5) {pt : List Rat} (hp : Pt w pt) {S : D}
    (hS : pure? S = some S)
    (hro : ∀ z : Int, ∃ ds : List Int, ds.length = w + 2 ∧ run tab wf N ro [.int z, .int ((w + 2 : Nat) : Int), .int 1000] = some (.lst (ds.map .int)))
    (hce : ∀ k : Nat, ∃ z : Int, run tab wf N ce [S, .int (k : Int)] = some (.int z)) {n : Nat} (hn : n ≤ 6) :
    ∃ es : List Eqn, es.length = n ∧ (∀ e ∈ es, Good w pt e) ∧ run tab wf (N + 1) t [S, .int 2, .int (w : Int), .int (n : Int), frs pt] = some (.lst (es.map eqnD)) := by
  have loop : ∀ (m k : Nat) (es : List Eqn) (x6 x7 x8 x9 x10 x11 x12 : SV), k + m = n → es.length = k → (∀ e ∈ es, Good w pt e) → ∃ (fs : List Eqn) (x6' x7' x8' x9' x10' x11' x12' : SV), fs.length = n ∧ (∀ e ∈ fs, Good w pt e) ∧
      forM (stepF (run tab wf N) wf [6] (eqnsBody ro ce pl ti)) ((List.range' k m).map fun (i : Nat) => D.int (i : Int)) [.val S, .val (.int 2), .val (.int (w : Int)), .val (.int (n : Int)), .val (frs pt), .mls (es.map eqnD), x6, x7, x8, x9, x10, x11, x12] =
      some (.nx [.val S, .val (.int 2), .val (.int (w : Int)), .val (.int (n : Int)), .val (frs pt), .mls (fs.map eqnD), x6', x7', x8', x9', x10', x11', x12']) := by
    intro m
    induction m with
    | zero => intro k es x6 x7 x8 x9 x10 x11 x12 e hd hg; exact ⟨es, x6, x7, x8, x9, x10, x11, x12, by omega, hg, rfl⟩
    | succ m ih =>
      intro k es x6 x7 x8 x9 x10 x11 x12 e hd hg
      obtain ⟨e1, x7', x8', x9', x10', x11', hg1, hs⟩ := eqns_turn (wf := wf) (k := k) O hw hp hS hro hce (by omega : es.length ≤ 6) hg (.val (.int (n : Int))) x6 x7 x8 x9 x10 x11 x12
      have hl : (List.range' k (m + 1)).map (fun (i : Nat) => D.int (i : Int)) = .int (k : Int) :: (List.range' (k + 1) m).map fun (i : Nat) => D.int (i : Int) := rfl
      rw [hl, forM_cons, hs]
      refine ih (k + 1) (es ++ [e1]) _ x7' x8' x9' x10' x11' x12 (by omega) (by simp; omega) fun e he => ?_
      rcases List.mem_append.mp he with h | h
      · exact hg e h
      · rw [List.mem_singleton.mp h]; exact hg1
  obtain ⟨fs, x6', x7', x8', x9', x10', x11', x12', hf, hg, hs⟩ := loop n 0 [] .non .non .non .non .non .non .non (by omega) rfl (fun e he => absurd he (by simp))
  refine ⟨fs, hf, hg, run_rt [.val S, .val (.int 2), .val (.int (w : Int)), .val (.int (n : Int)), .val (frs pt), .non, .non, .non, .non, .non, .non, .non, .non] ht rfl rfl ?_⟩
  have h0 : (0 : Nat) ≤ line := Nat.zero_le _
  have h5 := okRng_nat (n := n) (Nat.le_trans hn (by decide))
  have h6 : rng 0 (n : Int) = (List.range' 0 n).map fun (k : Nat) => D.int (k : Int) := by rw [rng_nat, List.range_eq_range']
  rw [List.map_nil] at hs
  generalize hF : fs.map eqnD = FF at *
  simp [eqnsFd, fresh, h0, evS_forF, h5, h6, hs]
end
end MP

/-! the defs as MiniPy. -/
namespace K15
open PySem L2 MP
/-- 0 common: 0=a 1=b -/
def d_common : Fd := ⟨2, 2, (.cons (.set 0 (.prim .abs (.cons (.slot 0) .nil))) (.cons (.set 1 (.prim .abs (.cons (.slot 1) .nil))) (.cons (.whileS (.cmp .gt (.slot 1) (.cint 0)) (.cons (.par 0 1 (.slot 1) (.bin .mod (.slot 0) (.slot 1))) .nil)) (.cons (.ret (.slot 0)) .nil))))⟩
/-- 1 fraction: 0=number 1=divisor 2=shared -/
def d_fraction : Fd := ⟨2, 3, (.cons (.ifS (.cmp .eq (.slot 1) (.cint 0)) (.cons .bad .nil) .nil) (.cons (.set 2 (.call 0 (.cons (.slot 0) (.cons (.slot 1) .nil)) [])) (.cons (.ifS (.cmp .lt (.slot 1) (.cint 0)) (.cons (.set 2 (.neg (.slot 2))) .nil) .nil) (.cons (.ret (.tup (.cons (.bin .fdiv (.slot 0) (.slot 2)) (.cons (.bin .fdiv (.slot 1) (.slot 2)) .nil)))) .nil))))⟩
/-- 2 minus: 0=a 1=b -/
def d_minus : Fd := ⟨2, 2, (.cons (.ret (.call 1 (.cons (.bin .sub (.bin .mul (.idx (.slot 0) (.cint 0)) (.idx (.slot 1) (.cint 1))) (.bin .mul (.idx (.slot 1) (.cint 0)) (.idx (.slot 0) (.cint 1)))) (.cons (.bin .mul (.idx (.slot 0) (.cint 1)) (.idx (.slot 1) (.cint 1))) .nil)) [])) .nil)⟩
/-- 3 times: 0=a 1=b -/
def d_times : Fd := ⟨2, 2, (.cons (.ret (.call 1 (.cons (.bin .mul (.idx (.slot 0) (.cint 0)) (.idx (.slot 1) (.cint 0))) (.cons (.bin .mul (.idx (.slot 0) (.cint 1)) (.idx (.slot 1) (.cint 1))) .nil)) [])) .nil)⟩
/-- 4 over: 0=a 1=b -/
def d_over : Fd := ⟨2, 2, (.cons (.ret (.call 1 (.cons (.bin .mul (.idx (.slot 0) (.cint 0)) (.idx (.slot 1) (.cint 1))) (.cons (.bin .mul (.idx (.slot 0) (.cint 1)) (.idx (.slot 1) (.cint 0))) .nil)) [])) .nil)⟩
/-- 5 taken_from: 0=row 1=factor 2=other 3=coefficients 4=parts 5=k -/
def d_taken_from : Fd := ⟨3, 6, (.cons (.set 3 (.comp (.call 2 (.cons (.idx (.idx (.slot 0) (.cint 0)) (.slot 5)) (.cons (.call 3 (.cons (.slot 1) (.cons (.idx (.idx (.slot 2) (.cint 0)) (.slot 5)) .nil)) []) .nil)) []) [5] (.rng1 (.prim .len (.cons (.idx (.slot 0) (.cint 0)) .nil))) .nil [5])) (.cons (.set 4 (.comp (.call 2 (.cons (.idx (.idx (.slot 0) (.cint 2)) (.slot 5)) (.cons (.call 3 (.cons (.slot 1) (.cons (.idx (.idx (.slot 2) (.cint 2)) (.slot 5)) .nil)) []) .nil)) []) [5] (.rng1 (.prim .len (.cons (.idx (.slot 0) (.cint 2)) .nil))) .nil [5])) (.cons (.ret (.tup (.cons (.slot 3) (.cons (.call 2 (.cons (.idx (.slot 0) (.cint 1)) (.cons (.call 3 (.cons (.slot 1) (.cons (.idx (.slot 2) (.cint 1)) .nil)) []) .nil)) []) (.cons (.slot 4) .nil))))) .nil)))⟩
/-- 6 leading: 0=row 1=k -/
def d_leading : Fd := ⟨1, 2, (.cons (.forS [1] (.rng1 (.prim .len (.cons (.idx (.slot 0) (.cint 0)) .nil))) (.cons (.ifS (.cmp .ne (.idx (.idx (.idx (.slot 0) (.cint 0)) (.slot 1)) (.cint 0)) (.cint 0)) (.cons (.ret (.slot 1)) .nil) .nil) .nil)) (.cons (.ret .cnon) .nil))⟩
/-- 7 divided: 0=row 1=by 2=one -/
def d_divided : Fd := ⟨2, 3, (.cons (.ret (.tup (.cons (.comp (.call 4 (.cons (.slot 2) (.cons (.slot 1) .nil)) []) [2] (.seq (.idx (.slot 0) (.cint 0))) .nil [2]) (.cons (.call 4 (.cons (.idx (.slot 0) (.cint 1)) (.cons (.slot 1) .nil)) []) (.cons (.comp (.call 4 (.cons (.slot 2) (.cons (.slot 1) .nil)) []) [2] (.seq (.idx (.slot 0) (.cint 2))) .nil [2]) .nil))))) .nil)⟩
/-- 8 reduced: 0=kept 1=row 2=other -/
def d_reduced : Fd := ⟨2, 3, (.cons (.forS [2] (.seq (.slot 0)) (.cons (.set 1 (.call 5 (.cons (.slot 1) (.cons (.idx (.idx (.slot 1) (.cint 0)) (.call 6 (.cons (.slot 2) .nil) [])) (.cons (.slot 2) .nil))) [])) .nil)) (.cons (.ret (.slot 1)) .nil))⟩
/-- 9 joined: 0=kept 1=row 2=at 3=other -/
def d_joined : Fd := ⟨2, 4, (.cons (.set 2 (.call 6 (.cons (.slot 1) .nil) [])) (.cons (.set 1 (.call 7 (.cons (.slot 1) (.cons (.idx (.idx (.slot 1) (.cint 0)) (.slot 2)) .nil)) [])) (.cons (.ret (.bin .add (.comp (.call 5 (.cons (.slot 3) (.cons (.idx (.idx (.slot 3) (.cint 0)) (.slot 2)) (.cons (.slot 1) .nil))) []) [3] (.seq (.slot 0)) .nil [3]) (.lst (.cons (.slot 1) .nil)))) .nil)))⟩
/-- 10 settle: 0=rows 1=many 2=kept 3=k 4=parts 5=row 6=at -/
def d_settle : Fd := ⟨2, 7, (.cons (.set 2 (.lst .nil)) (.cons (.forS [3] (.rng1 (.prim .len (.cons (.slot 0) .nil))) (.cons (.set 4 (.comp (.tup (.cons (.ite (.cmp .eq (.slot 6) (.slot 3)) (.cint 1) (.cint 0)) (.cons (.cint 1) .nil))) [6] (.rng1 (.prim .len (.cons (.slot 0) .nil))) .nil [6])) (.cons (.set 5 (.call 8 (.cons (.slot 2) (.cons (.tup (.cons (.prim .list (.cons (.idx (.idx (.slot 0) (.slot 3)) (.cint 0)) .nil)) (.cons (.idx (.idx (.slot 0) (.slot 3)) (.cint 1)) (.cons (.slot 4) .nil)))) .nil)) [])) (.cons (.ifS (.cmp .isnot (.call 6 (.cons (.slot 5) .nil) []) .cnon) (.cons (.set 2 (.call 9 (.cons (.slot 2) (.cons (.slot 5) .nil)) [])) .nil) (.cons (.ifS (.cmp .ne (.idx (.idx (.slot 5) (.cint 1)) (.cint 0)) (.cint 0)) (.cons (.ret (.tup (.cons (.cstr "conflict") (.cons (.comp (.slot 6) [6] (.rng1 (.prim .len (.cons (.slot 0) .nil))) (.cons (.cmp .ne (.idx (.idx (.idx (.slot 5) (.cint 2)) (.slot 6)) (.cint 0)) (.cint 0)) .nil) [6]) .nil)))) .nil) .nil) .nil)) .nil)))) (.cons (.ret (.tup (.cons (.cstr "kept") (.cons (.slot 2) .nil)))) .nil)))⟩
/-- 11 worth_of: 0=kept 1=at 2=row 3=k -/
def d_worth_of : Fd := ⟨2, 4, (.cons (.forS [2] (.seq (.slot 0)) (.cons (.ifS (.and (.cons (.cmp .eq (.call 6 (.cons (.slot 2) .nil) []) (.slot 1)) (.cons (.cmp .eq (.comp (.slot 3) [3] (.rng1 (.prim .len (.cons (.idx (.slot 2) (.cint 0)) .nil))) (.cons (.cmp .ne (.idx (.idx (.idx (.slot 2) (.cint 0)) (.slot 3)) (.cint 0)) (.cint 0)) .nil) [3]) (.lst (.cons (.slot 1) .nil))) .nil))) (.cons (.ret (.idx (.slot 2) (.cint 1))) .nil) .nil) .nil)) (.cons (.ret .cnon) .nil))⟩
/-- 12 _law_is_integer: 0=actual -/
def d_law_is_integer : Fd := ⟨1, 1, (.cons (.ret (.andV (.cons (.prim .isInt (.cons (.slot 0) .nil)) (.cons (.notV (.prim .isBool (.cons (.slot 0) .nil))) .nil)))) .nil)⟩
/-- 13 _law_cell: 0=script 1=k -/
def d_law_cell : Fd := ⟨2, 2, (.cons (.ifS (.cmp .lt (.slot 1) (.prim .len (.cons (.slot 0) .nil))) (.cons (.ret (.bin .mod (.prim .abs (.cons (.prim .int (.cons (.idx (.slot 0) (.slot 1)) .nil)) .nil)) (.bin .pow (.cint 10) (.cint 60)))) .nil) .nil) (.cons (.ret (.cint 0)) .nil))⟩
/-- 14 _law_row: 0=cell 1=size 2=base 3=row 4=number 5=k 6=mixed -/
def d_law_row : Fd := ⟨3, 7, (.cons (.setM 3 (.lst .nil)) (.cons (.set 4 (.slot 0)) (.cons (.forS [5] (.rng1 (.slot 1)) (.cons (.ifS (.cmp .ge (.slot 0) (.bin .pow (.cint 10) (.cint 18))) (.cons (.app 3 (.bin .mod (.prim .int (.cons (.slot 4) .nil)) (.slot 2))) (.cons (.set 4 (.bin .fdiv (.slot 4) (.slot 2))) .nil)) (.cons (.set 6 (.bin .mod (.bin .add (.bin .add (.bin .mul (.bin .mod (.prim .int (.cons (.slot 0) .nil)) (.cint 1000003)) (.cint 48271)) (.bin .mul (.slot 5) (.cint 69621))) (.bin .fdiv (.slot 0) (.cint 1000003))) (.cint 2147483647))) (.cons (.set 6 (.bin .mod (.bin .add (.bin .add (.bin .mul (.slot 6) (.cint 16807)) (.bin .mul (.slot 5) (.cint 12345))) (.cint 99991)) (.cint 2147483629))) (.cons (.app 3 (.bin .mod (.bin .fdiv (.slot 6) (.cint 7)) (.slot 2))) .nil)))) .nil)) (.cons (.frz 3) (.cons (.ret (.slot 3)) .nil)))))⟩
/-- 15 _law_fraction: 0=number 1=divisor 2=a 3=b 4=k -/
def d_law_fraction : Fd := ⟨2, 5, (.cons (.set 2 (.prim .abs (.cons (.slot 0) .nil))) (.cons (.set 3 (.prim .abs (.cons (.slot 1) .nil))) (.cons (.forS [4] (.rng1 (.cint 10000)) (.cons (.ifS (.cmp .eq (.slot 3) (.cint 0)) (.cons .brk .nil) .nil) (.cons (.par 2 3 (.slot 3) (.bin .mod (.slot 2) (.slot 3))) .nil))) (.cons (.ifS (.cmp .lt (.slot 1) (.cint 0)) (.cons (.set 2 (.neg (.slot 2))) .nil) .nil) (.cons (.ret (.tup (.cons (.bin .fdiv (.slot 0) (.slot 2)) (.cons (.bin .fdiv (.slot 1) (.slot 2)) .nil)))) .nil)))))⟩
/-- 16 _law_plus: 0=a 1=b -/
def d_law_plus : Fd := ⟨2, 2, (.cons (.ret (.call 15 (.cons (.bin .add (.bin .mul (.idx (.slot 0) (.cint 0)) (.idx (.slot 1) (.cint 1))) (.bin .mul (.idx (.slot 1) (.cint 0)) (.idx (.slot 0) (.cint 1)))) (.cons (.bin .mul (.idx (.slot 0) (.cint 1)) (.idx (.slot 1) (.cint 1))) .nil)) [])) .nil)⟩
/-- 17 _law_times: 0=a 1=b -/
def d_law_times : Fd := ⟨2, 2, (.cons (.ret (.call 15 (.cons (.bin .mul (.idx (.slot 0) (.cint 0)) (.idx (.slot 1) (.cint 0))) (.cons (.bin .mul (.idx (.slot 0) (.cint 1)) (.idx (.slot 1) (.cint 1))) .nil)) [])) .nil)⟩
/-- 18 _law_is_fraction: 0=actual -/
def d_law_is_fraction : Fd := ⟨1, 1, (.cons (.ifS (.or (.cons (.not (.tru (.prim .isTuple (.cons (.slot 0) .nil)))) (.cons (.cmp .ne (.prim .len (.cons (.slot 0) .nil)) (.cint 2)) .nil))) (.cons (.ret (.cbl false)) .nil) .nil) (.cons (.ifS (.or (.cons (.not (.tru (.call 12 (.cons (.idx (.slot 0) (.cint 0)) .nil) []))) (.cons (.not (.tru (.call 12 (.cons (.idx (.slot 0) (.cint 1)) .nil) []))) (.cons (.cmp .lt (.idx (.slot 0) (.cint 1)) (.cint 1)) .nil)))) (.cons (.ret (.cbl false)) .nil) .nil) (.cons (.ret (.cmp .eq (.slot 0) (.call 15 (.cons (.idx (.slot 0) (.cint 0)) (.cons (.idx (.slot 0) (.cint 1)) .nil)) []))) .nil)))⟩
/-- 19 _law_over: 0=a 1=b -/
def d_law_over : Fd := ⟨2, 2, (.cons (.ret (.call 15 (.cons (.bin .mul (.idx (.slot 0) (.cint 0)) (.idx (.slot 1) (.cint 1))) (.cons (.bin .mul (.idx (.slot 0) (.cint 1)) (.idx (.slot 1) (.cint 0))) .nil)) [])) .nil)⟩
/-- 20 _law_rank: 0=rows 1=left 2=found 3=width 4=column 5=places 6=row 7=k 8=factor 9=at -/
def d_law_rank : Fd := ⟨1, 10, (.cons (.setM 1 (.comp (.prim .list (.cons (.slot 6) .nil)) [6] (.seq (.slot 0)) .nil [6])) (.cons (.set 2 (.cint 0)) (.cons (.set 3 (.cint 0)) (.cons (.ifS (.cmp .ne (.slot 1) (.lst .nil)) (.cons (.set 3 (.prim .len (.cons (.idx (.slot 1) (.cint 0)) .nil))) .nil) .nil) (.cons (.forS [4] (.rng1 (.slot 3)) (.cons (.set 5 (.comp (.slot 7) [7] (.rng2 (.slot 2) (.prim .len (.cons (.slot 1) .nil))) (.cons (.cmp .ne (.idx (.idx (.slot 1) (.slot 7)) (.slot 4)) (.tup (.cons (.cint 0) (.cons (.cint 1) .nil)))) .nil) [7])) (.cons (.ifS (.cmp .eq (.slot 5) (.lst .nil)) (.cons .cont .nil) .nil) (.cons (.popTo 6 1 (.idx (.slot 5) (.cint 0))) (.cons (.ins 1 (.slot 2) (.slot 6)) (.cons (.forS [7] (.rng2 (.bin .add (.slot 2) (.cint 1)) (.prim .len (.cons (.slot 1) .nil))) (.cons (.set 8 (.call 19 (.cons (.idx (.idx (.slot 1) (.slot 7)) (.slot 4)) (.cons (.idx (.slot 6) (.slot 4)) .nil)) [])) (.cons (.set 8 (.tup (.cons (.neg (.idx (.slot 8) (.cint 0))) (.cons (.idx (.slot 8) (.cint 1)) .nil)))) (.cons (.setIx 1 (.slot 7) (.comp (.call 16 (.cons (.idx (.idx (.slot 1) (.slot 7)) (.slot 9)) (.cons (.call 17 (.cons (.slot 8) (.cons (.idx (.slot 6) (.slot 9)) .nil)) []) .nil)) []) [9] (.rng1 (.slot 3)) .nil [9])) .nil)))) (.cons (.set 2 (.bin .add (.slot 2) (.cint 1))) .nil))))))) (.cons (.ret (.slot 2)) .nil))))))⟩
/-- 21 _law_equations: 0=script 1=first 2=many 3=count 4=point 5=rows 6=k 7=draw 8=row 9=bound 10=at 11=other 12=part -/
def d_law_equations : Fd := ⟨5, 13, (.cons (.setM 5 (.lst .nil)) (.cons (.forS [6] (.rng1 (.slot 3)) (.cons (.set 7 (.call 14 (.cons (.call 13 (.cons (.slot 0) (.cons (.bin .add (.slot 1) (.slot 6)) .nil)) []) (.cons (.bin .add (.slot 2) (.cint 2)) (.cons (.cint 1000) .nil))) [])) (.cons (.set 8 (.comp (.tup (.cons (.bin .sub (.bin .mod (.idx (.slot 7) (.slot 10)) (.cint 5)) (.cint 2)) (.cons (.cint 1) .nil))) [10] (.rng1 (.slot 2)) .nil [10])) (.cons (.ifS (.and (.cons (.cmp .ne (.slot 5) (.lst .nil)) (.cons (.cmp .eq (.bin .mod (.idx (.slot 7) (.slot 2)) (.cint 4)) (.cint 0)) .nil))) (.cons (.set 11 (.idx (.idx (.slot 5) (.bin .mod (.bin .fdiv (.idx (.slot 7) (.slot 2)) (.cint 4)) (.prim .len (.cons (.slot 5) .nil)))) (.cint 0))) (.cons (.set 8 (.comp (.call 17 (.cons (.tup (.cons (.bin .sub (.bin .mod (.idx (.slot 7) (.bin .add (.slot 2) (.cint 1))) (.cint 3)) (.cint 1)) (.cons (.cint 1) .nil))) (.cons (.slot 12) .nil)) []) [12] (.seq (.slot 11)) .nil [12])) .nil)) .nil) (.cons (.set 9 (.tup (.cons (.cint 0) (.cons (.cint 1) .nil)))) (.cons (.forS [10] (.rng1 (.slot 2)) (.cons (.set 9 (.call 16 (.cons (.slot 9) (.cons (.call 17 (.cons (.idx (.slot 8) (.slot 10)) (.cons (.idx (.slot 4) (.slot 10)) .nil)) []) .nil)) [])) .nil)) (.cons (.app 5 (.tup (.cons (.slot 8) (.cons (.slot 9) .nil)))) .nil))))))) (.cons (.frz 5) (.cons (.ret (.slot 5)) .nil))))⟩
/-- 22 law: 0=script 1=shape 2=many 3=point 4=rows 5=given 6=state 7=kept 8=width 9=rank 10=k 11=unit 12=found 13=draw 14=row 15=at -/
def d_law : Fd := ⟨1, 16, (.cons (.set 1 (.call 14 (.cons (.call 13 (.cons (.slot 0) (.cons (.cint 0) .nil)) []) (.cons (.cint 2) (.cons (.cint 1000) .nil))) [])) (.cons (.set 2 (.bin .add (.cint 1) (.bin .mod (.idx (.slot 1) (.cint 0)) (.cint 5)))) (.cons (.set 3 (.comp (.call 15 (.cons (.bin .sub (.bin .mod (.slot 13) (.cint 19)) (.cint 9)) (.cons (.bin .add (.cint 1) (.bin .mod (.bin .fdiv (.slot 13) (.cint 19)) (.cint 4))) .nil)) []) [13] (.seq (.call 14 (.cons (.call 13 (.cons (.slot 0) (.cons (.cint 1) .nil)) []) (.cons (.slot 2) (.cons (.cint 1000) .nil))) [])) .nil [13])) (.cons (.set 4 (.call 21 (.cons (.slot 0) (.cons (.cint 2) (.cons (.slot 2) (.cons (.bin .mod (.idx (.slot 1) (.cint 1)) (.cint 7)) (.cons (.slot 3) .nil))))) [])) (.cons (.set 5 (.comp (.tup (.cons (.prim .list (.cons (.idx (.slot 14) (.cint 0)) .nil)) (.cons (.idx (.slot 14) (.cint 1)) .nil))) [14] (.seq (.slot 4)) .nil [14])) (.cons (.unp [6, 7] (.call 10 (.cons (.slot 5) (.cons (.slot 2) .nil)) [])) (.cons (.ifS (.or (.cons (.cmp .ne (.slot 6) (.cstr "kept")) (.cons (.cmp .ne (.slot 5) (.slot 4)) .nil))) (.cons (.ret (.cbl false)) .nil) .nil) (.cons (.set 8 (.comp (.idx (.slot 14) (.cint 0)) [14] (.seq (.slot 4)) .nil [14])) (.cons (.set 9 (.call 20 (.cons (.slot 8) .nil) [])) (.cons (.forS [10] (.rng1 (.slot 2)) (.cons (.set 11 (.comp (.tup (.cons (.ite (.cmp .eq (.slot 15) (.slot 10)) (.cint 1) (.cint 0)) (.cons (.cint 1) .nil))) [15] (.rng1 (.slot 2)) .nil [15])) (.cons (.set 12 (.call 11 (.cons (.slot 7) (.cons (.slot 10) .nil)) [])) (.cons (.ifS (.cmp .eq (.call 20 (.cons (.bin .add (.slot 8) (.lst (.cons (.slot 11) .nil))) .nil) []) (.slot 9)) (.cons (.ifS (.or (.cons (.not (.tru (.call 18 (.cons (.slot 12) .nil) []))) (.cons (.cmp .ne (.slot 12) (.idx (.slot 3) (.slot 10))) .nil))) (.cons (.ret (.cbl false)) .nil) .nil) .nil) (.cons (.ifS (.cmp .isnot (.slot 12) .cnon) (.cons (.ret (.cbl false)) .nil) .nil) .nil)) .nil)))) (.cons (.ret (.cbl true)) .nil)))))))))))⟩
def tab : List Fd := [d_common, d_fraction, d_minus, d_times, d_over, d_taken_from, d_leading, d_divided, d_reduced, d_joined, d_settle, d_worth_of, d_law_is_integer, d_law_cell, d_law_row, d_law_fraction, d_law_plus, d_law_times, d_law_is_fraction, d_law_over, d_law_rank, d_law_equations, d_law]
end K15

/-! the law's run. -/
namespace K15
open PySem MP
theorem t0 : tab[0]? = some commonFd := rfl
theorem t1 : tab[1]? = some (fractionFd 0) := rfl
theorem t2 : tab[2]? = some (minusFd 1) := rfl
theorem t3 : tab[3]? = some (timesFd 1) := rfl
theorem t4 : tab[4]? = some (overFd 1) := rfl
theorem t5 : tab[5]? = some (takenFd 2 3) := rfl
theorem t6 : tab[6]? = some leadingFd := rfl
theorem t7 : tab[7]? = some (dividedFd 4) := rfl
theorem t8 : tab[8]? = some (reducedFd 5 6) := rfl
theorem t9 : tab[9]? = some (joinedFd 5 6 7) := rfl
theorem t10 : tab[10]? = some (settleFd 8 6 9) := rfl
theorem t11 : tab[11]? = some (worthFd 6) := rfl
theorem t12 : tab[12]? = some d_law_is_integer := rfl
theorem t13 : tab[13]? = some cellFd := rfl
theorem t14 : tab[14]? = some drawFd := rfl
theorem t15 : tab[15]? = some lawFractionFd := rfl
theorem t16 : tab[16]? = some (plusFd 15) := rfl
theorem t17 : tab[17]? = some (timesFd 15) := rfl
theorem t18 : tab[18]? = some d_law_is_fraction := rfl
theorem t19 : tab[19]? = some (overFd 15) := rfl
theorem t20 : tab[20]? = some (rankFd 19 16 17) := rfl
theorem t21 : tab[21]? = some (eqnsFd 14 13 16 17) := rfl
theorem t22 : tab[22]? = some d_law := rfl
abbrev R (N f : Nat) (ds : List D) : Option D := run tab 20000 N f ds
theorem mk1 : Makes tab 20000 9000 2 1 := makes_fraction t1 t0 (by decide)
theorem mk15 : Makes tab 20000 4900 1 15 := makes_lawFraction t15
theorem o2 : Op2 tab 20000 2400 3 2 (· - ·) := op_minus mk1 t2 (by decide) (by decide)
theorem o3 : Op2 tab 20000 2400 3 3 (· * ·) := op_times mk1 t3 (by decide) (by decide)
theorem o4 : ∀ n, 3 ≤ n → ∀ a b : Rat, Sz 2400 a → Sz 2400 b → b ≠ 0 → run tab 20000 n 4 [fr a, fr b] = some (fr (a / b)) := op_over mk1 t4 (by decide) (by decide)
theorem ops (N : Nat) (h : 2 ≤ N) : Ops (run tab 20000 N) 19 16 17 :=
  ⟨op_over mk15 t19 (by decide) (by decide) N h, op_plus mk15 t16 (by decide) (by decide) N h, op_times mk15 t17 (by decide) (by decide) N h⟩
section
variable {w m : Nat} (hw : w ≤ line) (hm : m ≤ line)
include hw hm
theorem r5 (N : Nat) (h : 4 ≤ N) (r o : Row) (f : Rat) (hr : RSz w m 1200 r) (ho : RSz w m 1200 o) (hf : Sz 1200 f) : run tab 20000 N 5 [rowD r, fr f, rowD o] = some (rowD (taken r f o)) :=
  run_taken (n := 3) t5 o2 o3 hr ho hf hw hm h
theorem r6 (N : Nat) (h : 1 ≤ N) (r : Row) (hr : RSz w m 1200 r) : run tab 20000 N 6 [rowD r] = some (optD (lead r.c)) := run_leading t6 hr hw h
theorem r7 (N : Nat) (h : 4 ≤ N) (r : Row) (q : Rat) (hr : RSz w m 1200 r) (hq : Sz 1200 q) (hz : q ≠ 0) : run tab 20000 N 7 [rowD r, fr q] = some (rowD (divd r q)) :=
  run_divided (n := 3) t7 o4 hr hq hz hw hm h
theorem r8 (N : Nat) (h : 5 ≤ N) (kept : List Row) (r : Row) (hk : OkRed w m kept r) : run tab 20000 N 8 [.lst (kept.map rowD), rowD r] = some (rowD (redR kept r)) :=
  run_reduced (n := 4) t8 (r5 hw hm) (fun N hN => r6 hw hm N (by omega)) hk h
theorem r9 (N : Nat) (h : 5 ≤ N) (kept : List Row) (r : Row) (l : Nat) (hl : lead r.c = some l) (hr : RSz w m 1200 r) (hd : RSz w m 1200 (divd r (gD r.c l))) (hk : ∀ o ∈ kept, RSz w m 1200 o) (hn : kept.length < line) :
    run tab 20000 N 9 [.lst (kept.map rowD), rowD r] = some (.lst ((joinR kept r).map rowD)) :=
  run_joined (n := 4) t9 (r5 hw hm) (fun N hN => r6 hw hm N (by omega)) (r7 hw hm) hl hr hd hk hn h
end
theorem kept_sz {w n : Nat} {p : Vec} {rows : List Eqn} {k : Nat} {kept : List Row} (hk : k ≤ 6) (h : Inv w n p rows k kept) : ∀ o ∈ kept, RSz w n 1200 o := by
  obtain ⟨D, N, hI⟩ := h
  intro o ho
  have q4 : 2 ^ eB k ≤ 2 ^ 945 := Nat.pow_le_pow_right (by decide) (eB_le k hk)
  exact (hI.fit o ho).1.sz hI.pos (pow_lt_1200 (c := 0) q4 (by simpa using hI.d) (by decide)) (pow_lt_1200 (c := 0) q4 (by simpa using hI.nn) (by decide))
theorem r12 (N : Nat) (z : Int) : run tab 20000 (N + 1) 12 [.int z] = some (.bl true) := by
  have h1 : primD .isInt [.int z] = some (.bl true) := rfl
  have h2 : primD .isBool [.int z] = some (.bl false) := rfl
  refine run_rt [.val (.int z)] t12 rfl rfl ?_
  simp [d_law_is_integer, h1, h2]
theorem r18 (N : Nat) (q : Rat) (h : Sz 1200 q) : run tab 20000 (N + 2) 18 [fr q] = some (.bl true) := by
  have h1 : primD .isTuple [fr q] = some (.bl true) := rfl
  have h2 : primD .len [fr q] = some (.int 2) := rfl
  have h3 := r12 N
  have h4 := mk15 (N + 1) (by omega) q.num q.den (den_ne q) (h.d'.mono (by decide))
  rw [Rat.num_divInt_den] at h4
  have h5 : cmpD .eq (fr q) (fr q) = some true := eq_same (ok_fr q 0) (by decide)
  have h6 : ¬ ((q.den : Int) < 1) := by have := q.den_pos; omega
  have h7 : ∀ b, truD (.bl b) = some b := fun b => rfl
  refine run_rt [.val (fr q)] t18 rfl rfl ?_
  simp [d_law_is_fraction, h1, h2, h3, h4, h5, h6, h7]
/-! ### the loop over the variables -/
def loopBody : Ss := (.cons (.set 11 (.comp (.tup (.cons (.ite (.cmp .eq (.slot 15) (.slot 10)) (.cint 1) (.cint 0)) (.cons (.cint 1) .nil))) [15] (.rng1 (.slot 2)) .nil [15])) (.cons (.set 12 (.call 11 (.cons (.slot 7) (.cons (.slot 10) .nil)) [])) (.cons (.ifS (.cmp .eq (.call 20 (.cons (.bin .add (.slot 8) (.lst (.cons (.slot 11) .nil))) .nil) []) (.slot 9)) (.cons (.ifS (.or (.cons (.not (.tru (.call 18 (.cons (.slot 12) .nil) []))) (.cons (.cmp .ne (.slot 12) (.idx (.slot 3) (.slot 10))) .nil))) (.cons (.ret (.cbl false)) .nil) .nil) .nil) (.cons (.ifS (.cmp .isnot (.slot 12) .cnon) (.cons (.ret (.cbl false)) .nil) .nil) .nil)) .nil)))
theorem unit_small (n k : Nat) (i : Nat) : Sz 2 (gD (unitR n k) i) := by
  by_cases h : i < n
  · unfold unitR
    rw [gD_range h]
    split
    · exact Small.sz ⟨1, by simp, by decide⟩
    · exact sz_zero (by decide)
  · rw [gD_past (by simp [unitR]; omega)]; exact sz_zero (by decide)
theorem loop_turn {w k : Nat} (hw : w ≤ 5) (hk : k < w) {pt : List Rat} (hp : Pt w pt) {es : List Eqn} (h6 : es.length ≤ 6) (hg : ∀ e ∈ es, Good w pt e) {kept : List Row}
    (hI : Inv w es.length (gD pt) es es.length kept) (a0 a1 a4 a5 a6 a11 a12 a13 a14 a15 x10 : SV) : ∃ a11' a12',
    stepF (run tab 20000 39) 20000 [10] loopBody (.int (k : Int)) [a0, a1, .val (.int (w : Int)), .val (frs pt), a4, a5, a6, .val (.lst (kept.map rowD)), .val (.lst ((es.map Eqn.c).map frs)), .val (.int ((rankF w w 0 (es.map Eqn.c) : Nat) : Int)), x10, a11, a12, a13, a14, a15] =
      some (.nx [a0, a1, .val (.int (w : Int)), .val (frs pt), a4, a5, a6, .val (.lst (kept.map rowD)), .val (.lst ((es.map Eqn.c).map frs)), .val (.int ((rankF w w 0 (es.map Eqn.c) : Nat) : Int)), .val (.int (k : Int)), a11', a12', a13, a14, a15]) := by
  have hwl : w ≤ line := Nat.le_trans hw (by decide)
  have hml : es.length ≤ line := Nat.le_trans h6 (by decide)
  have hu : evE (run tab 20000 39) (.comp (.tup (.cons (.ite (.cmp .eq (.slot 15) (.slot 10)) (.cint 1) (.cint 0)) (.cons (.cint 1) .nil))) [15] (.rng1 (.slot 2)) .nil [15]) [a0, a1, .val (.int (w : Int)), .val (frs pt), a4, a5, a6, .val (.lst (kept.map rowD)), .val (.lst ((es.map Eqn.c).map frs)), .val (.int ((rankF w w 0 (es.map Eqn.c) : Nat) : Int)), .val (.int (k : Int)), a11, a12, a13, a14, a15] = some (frs (unitR w k)) :=
    unit_comp hwl (by simp) rfl (by simp) (by decide)
  have hks := kept_sz h6 hI
  have hwo := run_worth (wf := 20000) (N := 38) t11 hwl (fun r hr => r6 hwl hml 38 (by decide) r hr) hks k
  have hlr : ∀ x ∈ es.map Eqn.c, x.length = w := fun x hx => by obtain ⟨e, he, rfl⟩ := List.mem_map.mp hx; exact (hg e he).lc
  have hul : (unitR w k).length = w := by simp [unitR]
  have hrk := run_rank (wf := 20000) (N := 38) (rows := es.map Eqn.c ++ [unitR w k]) t20 (ops 38 (by decide)) hw (by simp; omega) (fun x hx => by
      rcases List.mem_append.mp hx with h | h
      · exact hlr x h
      · rw [List.mem_singleton.mp h]; exact hul) (fun x hx j => by
      rcases List.mem_append.mp hx with h | h
      · obtain ⟨e, he, rfl⟩ := List.mem_map.mp h
        exact (small_gD (hg e he).sm j).sz
      · rw [List.mem_singleton.mp h]; exact unit_small w k j)
  have hiff := rankF_iff (rows := es.map Eqn.c) (u := unitR w k) hlr hul
  have hrows : rowsS (es.map Eqn.c) = rowsE es := by
    funext v
    refine propext ⟨fun ⟨x, hx, e⟩ => ?_, fun ⟨x, hx, e⟩ => ⟨x.c, List.mem_map_of_mem hx, e⟩⟩
    obtain ⟨q, hq, rfl⟩ := List.mem_map.mp hx
    exact ⟨q, hq, e⟩
  obtain ⟨D', N', hA⟩ := hI
  have hsp := hA.span (gD (unitR w k))
  rw [List.take_length, ← hrows, ← hiff] at hsp
  obtain ⟨w1, w2⟩ := worth_ok (a := k) hA.fit hA.rel hk
  rw [hsp] at w1 w2
  have hcat : catD (.lst ((es.map Eqn.c).map frs)) (.lst [frs (unitR w k)]) = some ((es.map Eqn.c ++ [unitR w k]).map frs) := by
    show (if decide (((es.map Eqn.c).map frs).length + 1 ≤ line) = true then _ else _) = _
    rw [List.length_map, List.length_map, if_pos (decide_eq_true (by have : (6 : Nat) < line := by decide
                                                                     omega))]
    simp
  have h1 : (1 : Nat) ≤ line := by decide
  have hkp : k < pt.length := by rw [hp.len]; exact hk
  generalize rankF w w 0 (es.map Eqn.c ++ [unitR w k]) = Q at *
  generalize rankF w w 0 (es.map Eqn.c) = P at *
  generalize (es.map Eqn.c ++ [unitR w k]).map frs = ROWS2 at *
  generalize (es.map Eqn.c).map frs = ROWS at *
  generalize kept.map rowD = KEPT at *
  generalize unitR w k = U at *
  have h2 : ∀ b, truD (.bl b) = some b := fun b => rfl
  by_cases hQ : Q = P
  · rw [w1 hQ] at hwo
    have hsz : Sz 1200 (gD pt k) := ((hp.at k).sz (k := 12) (by decide) (by decide) (by decide)).mono (by decide)
    have h18 := r18 37 _ hsz
    have hne : cmpD .ne (fr (gD pt k)) (fr (gD pt k)) = some false := ne_same (ok_fr _ 0) (by decide)
    refine ⟨.val (frs U), .val (fr (gD pt k)), ?_⟩
    simp [stepF, loopBody, hu, hwo, hcat, h1, hrk, hQ, h18, h2, ix_frs' hkp, hne]
  · rw [w2 hQ] at hwo
    have h3 : cmpD .isnot .non .non = some false := rfl
    have hQ' : ¬ (Q : Int) = (P : Int) := by omega
    have hc : decide ((Q : Int) = (P : Int)) = false := decide_eq_false hQ'
    refine ⟨.val (frs U), .val .non, ?_⟩
    simp [stepF, loopBody, hu, hwo, hcat, h1, hrk, hc, h3]
theorem loop_run {w : Nat} (hw : w ≤ 5) {pt : List Rat} (hp : Pt w pt) {es : List Eqn} (h6 : es.length ≤ 6) (hg : ∀ e ∈ es, Good w pt e) {kept : List Row}
    (hI : Inv w es.length (gD pt) es es.length kept) (a0 a1 a4 a5 a6 a13 a14 a15 : SV) : ∀ (m k : Nat) (x10 a11 a12 : SV), k + m = w → ∃ x10' a11' a12',
    forM (stepF (run tab 20000 39) 20000 [10] loopBody) ((List.range' k m).map fun (k : Nat) => D.int (k : Int)) [a0, a1, .val (.int (w : Int)), .val (frs pt), a4, a5, a6, .val (.lst (kept.map rowD)), .val (.lst ((es.map Eqn.c).map frs)), .val (.int ((rankF w w 0 (es.map Eqn.c) : Nat) : Int)), x10, a11, a12, a13, a14, a15] =
      some (.nx [a0, a1, .val (.int (w : Int)), .val (frs pt), a4, a5, a6, .val (.lst (kept.map rowD)), .val (.lst ((es.map Eqn.c).map frs)), .val (.int ((rankF w w 0 (es.map Eqn.c) : Nat) : Int)), x10', a11', a12', a13, a14, a15])
  | 0, k, x10, a11, a12, e => ⟨x10, a11, a12, rfl⟩
  | m + 1, k, x10, a11, a12, e => by
    have hl0 : (List.range' k (m + 1)).map (fun (k : Nat) => D.int (k : Int)) = .int (k : Int) :: (List.range' (k + 1) m).map fun (k : Nat) => D.int (k : Int) := rfl
    obtain ⟨a11', a12', hs⟩ := loop_turn hw (by omega : k < w) hp h6 hg hI a0 a1 a4 a5 a6 a11 a12 a13 a14 a15 x10
    rw [hl0, forM_cons, hs]
    exact loop_run hw hp h6 hg hI a0 a1 a4 a5 a6 a13 a14 a15 m (k + 1) _ a11' a12' (by omega)
def lawEnd : Ss := (.cons (.forS [10] (.rng1 (.slot 2)) loopBody) (.cons (.ret (.cbl true)) .nil))
def lawMid : Ss := (.cons (.set 5 (.comp (.tup (.cons (.prim .list (.cons (.idx (.slot 14) (.cint 0)) .nil)) (.cons (.idx (.slot 14) (.cint 1)) .nil))) [14] (.seq (.slot 4)) .nil [14])) (.cons (.unp [6, 7] (.call 10 (.cons (.slot 5) (.cons (.slot 2) .nil)) [])) (.cons (.ifS (.or (.cons (.cmp .ne (.slot 6) (.cstr "kept")) (.cons (.cmp .ne (.slot 5) (.slot 4)) .nil))) (.cons (.ret (.cbl false)) .nil) .nil) (.cons (.set 8 (.comp (.idx (.slot 14) (.cint 0)) [14] (.seq (.slot 4)) .nil [14])) (.cons (.set 9 (.call 20 (.cons (.slot 8) .nil) [])) lawEnd)))))
theorem setTg_pair (i j : Nat) (a b : D) (ρ : Rho) : setTg [i, j] (.tup [a, b]) ρ = some ((ρ.set i (.val a)).set j (.val b)) := id rfl
theorem end_run {w : Nat} (hw : w ≤ 5) {pt : List Rat} (hp : Pt w pt) {es : List Eqn} (h6 : es.length ≤ 6) (hg : ∀ e ∈ es, Good w pt e) {kept : List Row}
    (hI : Inv w es.length (gD pt) es es.length kept) (a0 a1 a4 a5 a6 a10 a11 a12 a13 a14 a15 : SV) :
    evSs (run tab 20000 39) 20000 lawEnd [a0, a1, .val (.int (w : Int)), .val (frs pt), a4, a5, a6, .val (.lst (kept.map rowD)), .val (.lst ((es.map Eqn.c).map frs)), .val (.int ((rankF w w 0 (es.map Eqn.c) : Nat) : Int)), a10, a11, a12, a13, a14, a15] = some (.rt (.bl true)) := by
  obtain ⟨x10', a11', a12', hs⟩ := loop_run hw hp h6 hg hI a0 a1 a4 a5 a6 a13 a14 a15 w 0 a10 a11 a12 (by omega)
  have h5 := okRng_nat (n := w) (Nat.le_trans hw (by decide))
  have e6 : rng 0 (w : Int) = (List.range' 0 w).map fun (k : Nat) => D.int (k : Int) := by rw [rng_nat, List.range_eq_range']
  generalize rankF w w 0 (es.map Eqn.c) = P at *
  generalize (es.map Eqn.c).map frs = ROWS at *
  generalize kept.map rowD = KEPT at *
  simp [lawEnd, evS_forF, h5, e6, hs]
theorem mid_run {w : Nat} (hw : w ≤ 5) {pt : List Rat} (hp : Pt w pt) {es : List Eqn} (h6 : es.length ≤ 6) (hg : ∀ e ∈ es, Good w pt e) (a0 a1 : SV) :
    evSs (run tab 20000 39) 20000 lawMid [a0, a1, .val (.int (w : Int)), .val (frs pt), .val (.lst (es.map eqnD)), .non, .non, .non, .non, .non, .non, .non, .non, .non, .non, .non] = some (.rt (.bl true)) := by
  have hwl : w ≤ line := Nat.le_trans hw (by decide)
  have hml : es.length ≤ line := Nat.le_trans h6 (by decide)
  have h2 : (2 : Nat) ≤ line := by decide
  have c1 : evE (run tab 20000 39) (.comp (.tup (.cons (.prim .list (.cons (.idx (.slot 14) (.cint 0)) .nil)) (.cons (.idx (.slot 14) (.cint 1)) .nil))) [14] (.seq (.slot 4)) .nil [14]) [a0, a1, .val (.int (w : Int)), .val (frs pt), .val (.lst (es.map eqnD)), .non, .non, .non, .non, .non, .non, .non, .non, .non, .non, .non] = some (.lst (es.map eqnD)) := by
    refine comp_seq_map (f := eqnD) (g := eqnD) (d := .lst (es.map eqnD)) (by simp) rfl hml fun e he => ?_
    have : D.tup [.lst (e.c.map fr), fr e.b] = eqnD e := rfl
    generalize D.lst (es.map eqnD) = EE
    simp [h2, this]
  have E := eqs_of hw hp h6 hg
  obtain ⟨kept, hI, hse⟩ := run_settle (wf := 20000) (N := 38) (M := .int (w : Int)) t10 hwl hml (fun kept r h => r8 hwl hml 38 (by decide) kept r h) (fun r h => r6 hwl hml 38 (by decide) r h)
    (fun kept r l h1 h2 h3 h4 h5 => r9 hwl hml 38 (by decide) kept r l h1 h2 h3 h4 h5) (turn_ok E) (inv_zero w es.length (gD pt) es)
  have okE : okD 5 (.lst (es.map eqnD)) = true := okDs_of fun d hd => by
    obtain ⟨e, _, rfl⟩ := List.mem_map.mp hd
    show okDs 3 [frs e.c, fr e.b] = true
    exact okDs_of fun d hd => by
      simp at hd
      rcases hd with rfl | rfl
      · exact ok_frs _ 1
      · exact ok_fr _ 2
  have hne := ne_same okE (by decide)
  have hkp : cmpD .ne (.str "kept") (.str "kept") = some false := ne_same (k := 0) (by decide +kernel) (by decide)
  have c2 : ∀ (a5 a6 a7 : SV), evE (run tab 20000 39) (.comp (.idx (.slot 14) (.cint 0)) [14] (.seq (.slot 4)) .nil [14]) [a0, a1, .val (.int (w : Int)), .val (frs pt), .val (.lst (es.map eqnD)), a5, a6, a7, .non, .non, .non, .non, .non, .non, .non, .non] = some (.lst ((es.map Eqn.c).map frs)) := by
    intro a5 a6 a7
    rw [comp_seq_map (f := eqnD) (xs := es) (g := fun e => frs e.c) (d := .lst (es.map eqnD)) (by simp) rfl hml]
    · rw [List.map_map]; rfl
    · intro e he
      generalize D.lst (es.map eqnD) = EE
      simp
  have hrk := run_rank (wf := 20000) (N := 38) (rows := es.map Eqn.c) t20 (ops 38 (by decide)) hw (by simp; omega) (fun x hx => by obtain ⟨e, he, rfl⟩ := List.mem_map.mp hx; exact (hg e he).lc) (fun x hx j => by
    obtain ⟨e, he, rfl⟩ := List.mem_map.mp hx
    exact (small_gD (hg e he).sm j).sz)
  refine Eq.trans ?_ (end_run hw hp h6 hg hI a0 a1 (.val (.lst (es.map eqnD))) (.val (.lst (es.map eqnD))) (.val (.str "kept")) .non .non .non .non .non .non)
  generalize rankF w w 0 (es.map Eqn.c) = P at *
  generalize (es.map Eqn.c).map frs = ROWS at *
  generalize kept.map rowD = KEPT at *
  generalize es.map eqnD = EE at *
  simp [lawMid, c1, hse, setTg_pair, hkp, hne, c2, hrk]
def lawBody : Ss := (.cons (.set 1 (.call 14 (.cons (.call 13 (.cons (.slot 0) (.cons (.cint 0) .nil)) []) (.cons (.cint 2) (.cons (.cint 1000) .nil))) [])) (.cons (.set 2 (.bin .add (.cint 1) (.bin .mod (.idx (.slot 1) (.cint 0)) (.cint 5)))) (.cons (.set 3 (.comp (.call 15 (.cons (.bin .sub (.bin .mod (.slot 13) (.cint 19)) (.cint 9)) (.cons (.bin .add (.cint 1) (.bin .mod (.bin .fdiv (.slot 13) (.cint 19)) (.cint 4))) .nil)) []) [13] (.seq (.call 14 (.cons (.call 13 (.cons (.slot 0) (.cons (.cint 1) .nil)) []) (.cons (.slot 2) (.cons (.cint 1000) .nil))) [])) .nil [13])) (.cons (.set 4 (.call 21 (.cons (.slot 0) (.cons (.cint 2) (.cons (.slot 2) (.cons (.bin .mod (.idx (.slot 1) (.cint 1)) (.cint 7)) (.cons (.slot 3) .nil))))) [])) lawMid))))
theorem law_eq : d_law = ⟨1, 16, lawBody⟩ := rfl
theorem part_in {a b : Int} (ha : a.natAbs ≤ 9) (hb : 1 ≤ b) (hb4 : b ≤ 4) : In 12 108 (Rat.divInt a b) := by
  have h := divInt_mul (n := a) (d := b) (by omega)
  obtain ⟨c, hc, hc12⟩ : ∃ c : Int, b * c = 12 ∧ c.natAbs ≤ 12 := by
    rcases (by omega : b = 1 ∨ b = 2 ∨ b = 3 ∨ b = 4) with rfl | rfl | rfl | rfl
    · exact ⟨12, by decide, by decide⟩
    · exact ⟨6, by decide, by decide⟩
    · exact ⟨4, by decide, by decide⟩
    · exact ⟨3, by decide, by decide⟩
  refine ⟨a * c, ?_, ?_⟩
  · have e : (((12 : Nat) : Int) : Rat) = (b : Rat) * (c : Rat) := by rw [← Rat.intCast_mul, hc]; rfl
    rw [e, Rat.intCast_mul, ← h]; grind
  · rw [Int.natAbs_mul]
    exact Nat.mul_le_mul ha hc12
theorem plain (ns : List Int) (h : ns.length ≤ 63) : run tab 20000 40 22 [.lst (ns.map .int)] = some (.bl true) := by
  obtain ⟨z0, c0⟩ := run_cell (wf := 20000) (N := 38) t13 (ns := ns) (k := 0)
  obtain ⟨z1, c1⟩ := run_cell (wf := 20000) (N := 38) t13 (ns := ns) (k := 1)
  obtain ⟨ds, hds, d0⟩ := run_draw (wf := 20000) (N := 38) t14 z0 (n := 2) (by decide)
  obtain ⟨a, b, rfl⟩ : ∃ a b, ds = [a, b] := by
    match ds, hds with
    | [a, b], _ => exact ⟨a, b, rfl⟩
  have ha := fmod_small (a := a) (m := 5) (by decide)
  have hb := fmod_small (a := b) (m := 7) (by decide)
  obtain ⟨w, hw⟩ : ∃ w : Nat, 1 + a.fmod 5 = (w : Int) := ⟨(1 + a.fmod 5).toNat, by omega⟩
  obtain ⟨n, hn⟩ : ∃ n : Nat, b.fmod 7 = (n : Int) := ⟨(b.fmod 7).toNat, by omega⟩
  have hw5 : w ≤ 5 := by omega
  have hn6 : n ≤ 6 := by omega
  obtain ⟨ps, hps, d1⟩ := run_draw (wf := 20000) (N := 38) t14 z1 (n := w) (by omega)
  have hwl : w ≤ line := Nat.le_trans hw5 (by decide)
  have hpt : evE (run tab 20000 39) (.comp (.call 15 (.cons (.bin .sub (.bin .mod (.slot 13) (.cint 19)) (.cint 9)) (.cons (.bin .add (.cint 1) (.bin .mod (.bin .fdiv (.slot 13) (.cint 19)) (.cint 4))) .nil)) []) [13] (.seq (.call 14 (.cons (.call 13 (.cons (.slot 0) (.cons (.cint 1) .nil)) []) (.cons (.slot 2) (.cons (.cint 1000) .nil))) [])) .nil [13])
      [.val (.lst (ns.map .int)), .val (.lst [.int a, .int b]), .val (.int (w : Int)), .non, .non, .non, .non, .non, .non, .non, .non, .non, .non, .non, .non, .non] = some (frs (ps.map fun d => Rat.divInt (d.fmod 19 - 9) (1 + (d.fdiv 19).fmod 4))) := by
    have c1' : run tab 20000 39 13 [.lst (ns.map .int), .int 1] = some (.int z1) := c1
    rw [comp_seq_map (f := D.int) (xs := ps) (g := fun d => fr (Rat.divInt (d.fmod 19 - 9) (1 + (d.fdiv 19).fmod 4))) (d := .lst (ps.map .int))]
    · simp [frs]
    · generalize ns.map D.int = NS at *
      simp [c1', d1]
    · rfl
    · rw [hps]; exact hwl
    · intro d hd
      have f1 := fmod_small (a := d) (m := 19) (by decide)
      have f2 := fmod_small (a := d.fdiv 19) (m := 4) (by decide)
      have hm := mk15 39 (by decide) (d.fmod 19 - 9) (1 + (d.fdiv 19).fmod 4) (by omega) (by unfold Bi; have : (5 : Nat) < 2 ^ 4900 := Nat.lt_of_lt_of_le (by decide : 5 < 2 ^ 3) (Nat.pow_le_pow_right (by decide) (by decide)); omega)
      generalize ns.map D.int = NS at *
      simp [bin_mod, bin_fdiv (i := d) (j := 19) (by decide) (by decide), hm]
  have hp : Pt w (ps.map fun d => Rat.divInt (d.fmod 19 - 9) (1 + (d.fdiv 19).fmod 4)) := by
    refine ⟨by rw [List.length_map, hps], fun x hx => ?_⟩
    obtain ⟨d, _, rfl⟩ := List.mem_map.mp hx
    have f1 := fmod_small (a := d) (m := 19) (by decide)
    have f2 := fmod_small (a := d.fdiv 19) (m := 4) (by decide)
    exact part_in (by omega) (by omega) (by omega)
  generalize ps.map (fun d => Rat.divInt (d.fmod 19 - 9) (1 + (d.fdiv 19).fmod 4)) = pt at *
  obtain ⟨es, hes, hg, hq⟩ := run_eqns (wf := 20000) (N := 38) t21 (ops 38 (by decide)) hw5 hp (S := .lst (ns.map .int)) rfl (fun z => run_draw (N := 37) t14 z (by omega)) (fun k => run_cell (N := 37) t13) hn6
  refine run_rt [.val (.lst (ns.map .int)), .non, .non, .non, .non, .non, .non, .non, .non, .non, .non, .non, .non, .non, .non, .non] t22 rfl rfl ?_
  rw [law_eq]
  refine Eq.trans ?_ (mid_run hw5 hp (by omega) hg (.val (.lst (ns.map .int))) (.val (.lst [.int a, .int b])))
  have c0' : run tab 20000 39 13 [.lst (ns.map .int), .int 0] = some (.int z0) := c0
  have d0' : run tab 20000 39 14 [.int z0, .int 2, .int 1000] = some (.lst [.int a, .int b]) := d0
  have i0 : ixD (.lst [.int a, .int b]) (.int 0) = some (.int a) := ix_lst (i := 0) rfl
  have i1 : ixD (.lst [.int a, .int b]) (.int 1) = some (.int b) := ix_lst (i := 1) rfl
  generalize ns.map D.int = NS at *
  have pA : pure? (D.lst [.int a, .int b]) = some (D.lst [.int a, .int b]) := rfl
  generalize D.lst [.int a, .int b] = AB at *
  generalize es.map eqnD = EE at *
  simp [lawBody, c0', d0', pA, i0, i1, bin_mod, hw, hpt, hn, hq]
end K15

namespace K15
open PySem PySem.Spec PyProof.Rows L2 MP
def topS (i : Nat) : Stmt := PySem.Challenge.pw_trueshop_k15_equations_settled.main.body.getD i (.Pass ⟨0, 0, 0, 0⟩)
def ent0 : Ent := ⟨"common", topS 4, ["a", "b"], ["a", "b"], d_common, [[]]⟩
def ent1 : Ent := ⟨"fraction", topS 5, ["number", "divisor", "shared"], ["number", "divisor"], d_fraction, [[]]⟩
def ent2 : Ent := ⟨"minus", topS 6, ["a", "b"], ["a", "b"], d_minus, [[]]⟩
def ent3 : Ent := ⟨"times", topS 7, ["a", "b"], ["a", "b"], d_times, [[]]⟩
def ent4 : Ent := ⟨"over", topS 8, ["a", "b"], ["a", "b"], d_over, [[]]⟩
def ent5 : Ent := ⟨"taken_from", topS 10, ["row", "factor", "other", "coefficients", "parts", "k"], ["row", "factor", "other"], d_taken_from, [[]]⟩
def ent6 : Ent := ⟨"leading", topS 11, ["row", "k"], ["row"], d_leading, [[]]⟩
def ent7 : Ent := ⟨"divided", topS 12, ["row", "by", "one"], ["row", "by"], d_divided, [[]]⟩
def ent8 : Ent := ⟨"reduced", topS 13, ["kept", "row", "other"], ["kept", "row"], d_reduced, [[]]⟩
def ent9 : Ent := ⟨"joined", topS 14, ["kept", "row", "at", "other"], ["kept", "row"], d_joined, [[]]⟩
def ent10 : Ent := ⟨"settle", topS 15, ["rows", "many", "kept", "k", "parts", "row", "at"], ["rows", "many"], d_settle, [[]]⟩
def ent11 : Ent := ⟨"worth_of", topS 16, ["kept", "at", "row", "k"], ["kept", "at"], d_worth_of, [[]]⟩
def ent12 : Ent := ⟨"_law_is_integer", topS 18, ["actual"], ["actual"], d_law_is_integer, [[]]⟩
def ent13 : Ent := ⟨"_law_cell", topS 19, ["script", "k"], ["script", "k"], d_law_cell, [[]]⟩
def ent14 : Ent := ⟨"_law_row", topS 20, ["cell", "size", "base", "row", "number", "k", "mixed"], ["cell", "size", "base"], d_law_row, [[]]⟩
def ent15 : Ent := ⟨"_law_fraction", topS 21, ["number", "divisor", "a", "b", "k"], ["number", "divisor"], d_law_fraction, [[]]⟩
def ent16 : Ent := ⟨"_law_plus", topS 22, ["a", "b"], ["a", "b"], d_law_plus, [[]]⟩
def ent17 : Ent := ⟨"_law_times", topS 23, ["a", "b"], ["a", "b"], d_law_times, [[]]⟩
def ent18 : Ent := ⟨"_law_is_fraction", topS 25, ["actual"], ["actual"], d_law_is_fraction, [[]]⟩
def ent19 : Ent := ⟨"_law_over", topS 28, ["a", "b"], ["a", "b"], d_law_over, [[]]⟩
def ent20 : Ent := ⟨"_law_rank", topS 29, ["rows", "left", "found", "width", "column", "places", "row", "k", "factor", "at"], ["rows"], d_law_rank, [[]]⟩
def ent21 : Ent := ⟨"_law_equations", topS 30, ["script", "first", "many", "count", "point", "rows", "k", "draw", "row", "bound", "at", "other", "part"], ["script", "first", "many", "count", "point"], d_law_equations, [[]]⟩
def ent22 : Ent := ⟨"law", topS 31, ["script", "shape", "many", "point", "rows", "given", "state", "kept", "width", "rank", "k", "unit", "found", "draw", "row", "at"], ["script"], d_law, [[]]⟩
def es : List Ent := [ent0, ent1, ent2, ent3, ent4, ent5, ent6, ent7, ent8, ent9, ent10, ent11, ent12, ent13, ent14, ent15, ent16, ent17, ent18, ent19, ent20, ent21, ent22]
theorem es_tab : es.map (·.fd) = tab := rfl
set_option maxHeartbeats 0 in
theorem es_chk : es.all (chkEnt es) = true := by decide +kernel
end K15

namespace K15
open PySem PySem.Spec PyProof.Rows L2 MP
set_option maxHeartbeats 4000000
theorem b0 (kV doc pm : Value) (an : Option Addr) (cdv ct : Value) (us : List Value) (hl : us.length = 2) : bindArgs (PySem.W.fnOf "common" "common" (defArgs (topS 4)) (defBody (topS 4)) (defScope (topS 4)) .none kV doc pm an cdv ct) ⟨us, []⟩ = pure ((["a", "b"] : List Str).zip us) := match us, hl with | [_, _], _ => rfl
theorem e0 {w : World} {K : PySem.W.Frag} {h : Heap} {mg : Str → Option Value} (X : K.In h) (G : h.Ns mainGlobals mg) {f0 : Addr} {od0 an0 : Option Addr} {sl0 : Array (Option Value)} {oc0 kV0 dc0 pm0 cd0 ct0 : Value} (a0 : PySem.W.nsIn K mainGlobals "common" = some (some (.ref f0))) (l0 : K.lookup f0 = some ⟨oc0, od0, .func (PySem.W.fnOf "common" "common" (defArgs (topS 4)) (defBody (topS 4)) (defScope (topS 4)) .none kV0 dc0 pm0 an0 cd0 ct0), sl0⟩) (c0 : PySem.W.codeIn K cd0 "common" = true) (k0 : PySem.W.keepIn K (.ref f0) = true) : EntOk K mg ent0 :=
  ent_mk (w := w) (e := ent0) X G a0 l0 c0 k0 rfl b0
theorem e1 {w : World} {K : PySem.W.Frag} {h : Heap} {mg : Str → Option Value} (X : K.In h) (G : h.Ns mainGlobals mg) {f1 : Addr} {od1 an1 : Option Addr} {sl1 : Array (Option Value)} {oc1 kV1 dc1 pm1 cd1 ct1 : Value} {T1 : Addr} {o1 : Obj} {tk1 : Tok} {n1 : Nat} (a1 : PySem.W.nsIn K mainGlobals "fraction" = some (some (.ref f1))) (l1 : K.lookup f1 = some ⟨oc1, od1, .func (PySem.W.fnOf "fraction" "fraction" (defArgs (topS 5)) (defBody (topS 5)) (defScope (topS 5)) (.ref T1) kV1 dc1 pm1 an1 cd1 ct1), sl1⟩) (c1 : PySem.W.codeIn K cd1 "fraction" = true) (k1 : PySem.W.keepIn K (.ref f1) = true) (q1 : K.lookup T1 = some o1) (r1 : o1.data = .seq #[.int 1 tk1] n1) : EntOk K mg ent1 :=
  ent_mk1 (w := w) (e := ent1) (m := 1) (i := 1) X G a1 l1 c1 k1 q1 r1 rfl (by decide +kernel) (by decide +kernel) (fun _ _ _ _ _ _ _ us its h1 h2 => match us, its, h1, h2 with | [_, _], [_], _, _ => ⟨_, rfl, rfl⟩) (fun _ _ _ _ _ _ _ us its h1 h2 => match us, its, h1, h2 with | [_], [_], _, _ => ⟨_, rfl, rfl⟩)
theorem b2 (kV doc pm : Value) (an : Option Addr) (cdv ct : Value) (us : List Value) (hl : us.length = 2) : bindArgs (PySem.W.fnOf "minus" "minus" (defArgs (topS 6)) (defBody (topS 6)) (defScope (topS 6)) .none kV doc pm an cdv ct) ⟨us, []⟩ = pure ((["a", "b"] : List Str).zip us) := match us, hl with | [_, _], _ => rfl
theorem e2 {w : World} {K : PySem.W.Frag} {h : Heap} {mg : Str → Option Value} (X : K.In h) (G : h.Ns mainGlobals mg) {f2 : Addr} {od2 an2 : Option Addr} {sl2 : Array (Option Value)} {oc2 kV2 dc2 pm2 cd2 ct2 : Value} (a2 : PySem.W.nsIn K mainGlobals "minus" = some (some (.ref f2))) (l2 : K.lookup f2 = some ⟨oc2, od2, .func (PySem.W.fnOf "minus" "minus" (defArgs (topS 6)) (defBody (topS 6)) (defScope (topS 6)) .none kV2 dc2 pm2 an2 cd2 ct2), sl2⟩) (c2 : PySem.W.codeIn K cd2 "minus" = true) (k2 : PySem.W.keepIn K (.ref f2) = true) : EntOk K mg ent2 :=
  ent_mk (w := w) (e := ent2) X G a2 l2 c2 k2 rfl b2
theorem b3 (kV doc pm : Value) (an : Option Addr) (cdv ct : Value) (us : List Value) (hl : us.length = 2) : bindArgs (PySem.W.fnOf "times" "times" (defArgs (topS 7)) (defBody (topS 7)) (defScope (topS 7)) .none kV doc pm an cdv ct) ⟨us, []⟩ = pure ((["a", "b"] : List Str).zip us) := match us, hl with | [_, _], _ => rfl
theorem e3 {w : World} {K : PySem.W.Frag} {h : Heap} {mg : Str → Option Value} (X : K.In h) (G : h.Ns mainGlobals mg) {f3 : Addr} {od3 an3 : Option Addr} {sl3 : Array (Option Value)} {oc3 kV3 dc3 pm3 cd3 ct3 : Value} (a3 : PySem.W.nsIn K mainGlobals "times" = some (some (.ref f3))) (l3 : K.lookup f3 = some ⟨oc3, od3, .func (PySem.W.fnOf "times" "times" (defArgs (topS 7)) (defBody (topS 7)) (defScope (topS 7)) .none kV3 dc3 pm3 an3 cd3 ct3), sl3⟩) (c3 : PySem.W.codeIn K cd3 "times" = true) (k3 : PySem.W.keepIn K (.ref f3) = true) : EntOk K mg ent3 :=
  ent_mk (w := w) (e := ent3) X G a3 l3 c3 k3 rfl b3
theorem b4 (kV doc pm : Value) (an : Option Addr) (cdv ct : Value) (us : List Value) (hl : us.length = 2) : bindArgs (PySem.W.fnOf "over" "over" (defArgs (topS 8)) (defBody (topS 8)) (defScope (topS 8)) .none kV doc pm an cdv ct) ⟨us, []⟩ = pure ((["a", "b"] : List Str).zip us) := match us, hl with | [_, _], _ => rfl
theorem e4 {w : World} {K : PySem.W.Frag} {h : Heap} {mg : Str → Option Value} (X : K.In h) (G : h.Ns mainGlobals mg) {f4 : Addr} {od4 an4 : Option Addr} {sl4 : Array (Option Value)} {oc4 kV4 dc4 pm4 cd4 ct4 : Value} (a4 : PySem.W.nsIn K mainGlobals "over" = some (some (.ref f4))) (l4 : K.lookup f4 = some ⟨oc4, od4, .func (PySem.W.fnOf "over" "over" (defArgs (topS 8)) (defBody (topS 8)) (defScope (topS 8)) .none kV4 dc4 pm4 an4 cd4 ct4), sl4⟩) (c4 : PySem.W.codeIn K cd4 "over" = true) (k4 : PySem.W.keepIn K (.ref f4) = true) : EntOk K mg ent4 :=
  ent_mk (w := w) (e := ent4) X G a4 l4 c4 k4 rfl b4
theorem b5 (kV doc pm : Value) (an : Option Addr) (cdv ct : Value) (us : List Value) (hl : us.length = 3) : bindArgs (PySem.W.fnOf "taken_from" "taken_from" (defArgs (topS 10)) (defBody (topS 10)) (defScope (topS 10)) .none kV doc pm an cdv ct) ⟨us, []⟩ = pure ((["row", "factor", "other"] : List Str).zip us) := match us, hl with | [_, _, _], _ => rfl
theorem e5 {w : World} {K : PySem.W.Frag} {h : Heap} {mg : Str → Option Value} (X : K.In h) (G : h.Ns mainGlobals mg) {f5 : Addr} {od5 an5 : Option Addr} {sl5 : Array (Option Value)} {oc5 kV5 dc5 pm5 cd5 ct5 : Value} (a5 : PySem.W.nsIn K mainGlobals "taken_from" = some (some (.ref f5))) (l5 : K.lookup f5 = some ⟨oc5, od5, .func (PySem.W.fnOf "taken_from" "taken_from" (defArgs (topS 10)) (defBody (topS 10)) (defScope (topS 10)) .none kV5 dc5 pm5 an5 cd5 ct5), sl5⟩) (c5 : PySem.W.codeIn K cd5 "taken_from" = true) (k5 : PySem.W.keepIn K (.ref f5) = true) : EntOk K mg ent5 :=
  ent_mk (w := w) (e := ent5) X G a5 l5 c5 k5 rfl b5
theorem b6 (kV doc pm : Value) (an : Option Addr) (cdv ct : Value) (us : List Value) (hl : us.length = 1) : bindArgs (PySem.W.fnOf "leading" "leading" (defArgs (topS 11)) (defBody (topS 11)) (defScope (topS 11)) .none kV doc pm an cdv ct) ⟨us, []⟩ = pure ((["row"] : List Str).zip us) := match us, hl with | [_], _ => rfl
theorem e6 {w : World} {K : PySem.W.Frag} {h : Heap} {mg : Str → Option Value} (X : K.In h) (G : h.Ns mainGlobals mg) {f6 : Addr} {od6 an6 : Option Addr} {sl6 : Array (Option Value)} {oc6 kV6 dc6 pm6 cd6 ct6 : Value} (a6 : PySem.W.nsIn K mainGlobals "leading" = some (some (.ref f6))) (l6 : K.lookup f6 = some ⟨oc6, od6, .func (PySem.W.fnOf "leading" "leading" (defArgs (topS 11)) (defBody (topS 11)) (defScope (topS 11)) .none kV6 dc6 pm6 an6 cd6 ct6), sl6⟩) (c6 : PySem.W.codeIn K cd6 "leading" = true) (k6 : PySem.W.keepIn K (.ref f6) = true) : EntOk K mg ent6 :=
  ent_mk (w := w) (e := ent6) X G a6 l6 c6 k6 rfl b6
theorem b7 (kV doc pm : Value) (an : Option Addr) (cdv ct : Value) (us : List Value) (hl : us.length = 2) : bindArgs (PySem.W.fnOf "divided" "divided" (defArgs (topS 12)) (defBody (topS 12)) (defScope (topS 12)) .none kV doc pm an cdv ct) ⟨us, []⟩ = pure ((["row", "by"] : List Str).zip us) := match us, hl with | [_, _], _ => rfl
theorem e7 {w : World} {K : PySem.W.Frag} {h : Heap} {mg : Str → Option Value} (X : K.In h) (G : h.Ns mainGlobals mg) {f7 : Addr} {od7 an7 : Option Addr} {sl7 : Array (Option Value)} {oc7 kV7 dc7 pm7 cd7 ct7 : Value} (a7 : PySem.W.nsIn K mainGlobals "divided" = some (some (.ref f7))) (l7 : K.lookup f7 = some ⟨oc7, od7, .func (PySem.W.fnOf "divided" "divided" (defArgs (topS 12)) (defBody (topS 12)) (defScope (topS 12)) .none kV7 dc7 pm7 an7 cd7 ct7), sl7⟩) (c7 : PySem.W.codeIn K cd7 "divided" = true) (k7 : PySem.W.keepIn K (.ref f7) = true) : EntOk K mg ent7 :=
  ent_mk (w := w) (e := ent7) X G a7 l7 c7 k7 rfl b7
theorem b8 (kV doc pm : Value) (an : Option Addr) (cdv ct : Value) (us : List Value) (hl : us.length = 2) : bindArgs (PySem.W.fnOf "reduced" "reduced" (defArgs (topS 13)) (defBody (topS 13)) (defScope (topS 13)) .none kV doc pm an cdv ct) ⟨us, []⟩ = pure ((["kept", "row"] : List Str).zip us) := match us, hl with | [_, _], _ => rfl
theorem e8 {w : World} {K : PySem.W.Frag} {h : Heap} {mg : Str → Option Value} (X : K.In h) (G : h.Ns mainGlobals mg) {f8 : Addr} {od8 an8 : Option Addr} {sl8 : Array (Option Value)} {oc8 kV8 dc8 pm8 cd8 ct8 : Value} (a8 : PySem.W.nsIn K mainGlobals "reduced" = some (some (.ref f8))) (l8 : K.lookup f8 = some ⟨oc8, od8, .func (PySem.W.fnOf "reduced" "reduced" (defArgs (topS 13)) (defBody (topS 13)) (defScope (topS 13)) .none kV8 dc8 pm8 an8 cd8 ct8), sl8⟩) (c8 : PySem.W.codeIn K cd8 "reduced" = true) (k8 : PySem.W.keepIn K (.ref f8) = true) : EntOk K mg ent8 :=
  ent_mk (w := w) (e := ent8) X G a8 l8 c8 k8 rfl b8
theorem b9 (kV doc pm : Value) (an : Option Addr) (cdv ct : Value) (us : List Value) (hl : us.length = 2) : bindArgs (PySem.W.fnOf "joined" "joined" (defArgs (topS 14)) (defBody (topS 14)) (defScope (topS 14)) .none kV doc pm an cdv ct) ⟨us, []⟩ = pure ((["kept", "row"] : List Str).zip us) := match us, hl with | [_, _], _ => rfl
theorem e9 {w : World} {K : PySem.W.Frag} {h : Heap} {mg : Str → Option Value} (X : K.In h) (G : h.Ns mainGlobals mg) {f9 : Addr} {od9 an9 : Option Addr} {sl9 : Array (Option Value)} {oc9 kV9 dc9 pm9 cd9 ct9 : Value} (a9 : PySem.W.nsIn K mainGlobals "joined" = some (some (.ref f9))) (l9 : K.lookup f9 = some ⟨oc9, od9, .func (PySem.W.fnOf "joined" "joined" (defArgs (topS 14)) (defBody (topS 14)) (defScope (topS 14)) .none kV9 dc9 pm9 an9 cd9 ct9), sl9⟩) (c9 : PySem.W.codeIn K cd9 "joined" = true) (k9 : PySem.W.keepIn K (.ref f9) = true) : EntOk K mg ent9 :=
  ent_mk (w := w) (e := ent9) X G a9 l9 c9 k9 rfl b9
theorem b10 (kV doc pm : Value) (an : Option Addr) (cdv ct : Value) (us : List Value) (hl : us.length = 2) : bindArgs (PySem.W.fnOf "settle" "settle" (defArgs (topS 15)) (defBody (topS 15)) (defScope (topS 15)) .none kV doc pm an cdv ct) ⟨us, []⟩ = pure ((["rows", "many"] : List Str).zip us) := match us, hl with | [_, _], _ => rfl
theorem e10 {w : World} {K : PySem.W.Frag} {h : Heap} {mg : Str → Option Value} (X : K.In h) (G : h.Ns mainGlobals mg) {f10 : Addr} {od10 an10 : Option Addr} {sl10 : Array (Option Value)} {oc10 kV10 dc10 pm10 cd10 ct10 : Value} (a10 : PySem.W.nsIn K mainGlobals "settle" = some (some (.ref f10))) (l10 : K.lookup f10 = some ⟨oc10, od10, .func (PySem.W.fnOf "settle" "settle" (defArgs (topS 15)) (defBody (topS 15)) (defScope (topS 15)) .none kV10 dc10 pm10 an10 cd10 ct10), sl10⟩) (c10 : PySem.W.codeIn K cd10 "settle" = true) (k10 : PySem.W.keepIn K (.ref f10) = true) : EntOk K mg ent10 :=
  ent_mk (w := w) (e := ent10) X G a10 l10 c10 k10 rfl b10
theorem b11 (kV doc pm : Value) (an : Option Addr) (cdv ct : Value) (us : List Value) (hl : us.length = 2) : bindArgs (PySem.W.fnOf "worth_of" "worth_of" (defArgs (topS 16)) (defBody (topS 16)) (defScope (topS 16)) .none kV doc pm an cdv ct) ⟨us, []⟩ = pure ((["kept", "at"] : List Str).zip us) := match us, hl with | [_, _], _ => rfl
theorem e11 {w : World} {K : PySem.W.Frag} {h : Heap} {mg : Str → Option Value} (X : K.In h) (G : h.Ns mainGlobals mg) {f11 : Addr} {od11 an11 : Option Addr} {sl11 : Array (Option Value)} {oc11 kV11 dc11 pm11 cd11 ct11 : Value} (a11 : PySem.W.nsIn K mainGlobals "worth_of" = some (some (.ref f11))) (l11 : K.lookup f11 = some ⟨oc11, od11, .func (PySem.W.fnOf "worth_of" "worth_of" (defArgs (topS 16)) (defBody (topS 16)) (defScope (topS 16)) .none kV11 dc11 pm11 an11 cd11 ct11), sl11⟩) (c11 : PySem.W.codeIn K cd11 "worth_of" = true) (k11 : PySem.W.keepIn K (.ref f11) = true) : EntOk K mg ent11 :=
  ent_mk (w := w) (e := ent11) X G a11 l11 c11 k11 rfl b11
theorem b12 (kV doc pm : Value) (an : Option Addr) (cdv ct : Value) (us : List Value) (hl : us.length = 1) : bindArgs (PySem.W.fnOf "_law_is_integer" "_law_is_integer" (defArgs (topS 18)) (defBody (topS 18)) (defScope (topS 18)) .none kV doc pm an cdv ct) ⟨us, []⟩ = pure ((["actual"] : List Str).zip us) := match us, hl with | [_], _ => rfl
theorem e12 {w : World} {K : PySem.W.Frag} {h : Heap} {mg : Str → Option Value} (X : K.In h) (G : h.Ns mainGlobals mg) {f12 : Addr} {od12 an12 : Option Addr} {sl12 : Array (Option Value)} {oc12 kV12 dc12 pm12 cd12 ct12 : Value} (a12 : PySem.W.nsIn K mainGlobals "_law_is_integer" = some (some (.ref f12))) (l12 : K.lookup f12 = some ⟨oc12, od12, .func (PySem.W.fnOf "_law_is_integer" "_law_is_integer" (defArgs (topS 18)) (defBody (topS 18)) (defScope (topS 18)) .none kV12 dc12 pm12 an12 cd12 ct12), sl12⟩) (c12 : PySem.W.codeIn K cd12 "_law_is_integer" = true) (k12 : PySem.W.keepIn K (.ref f12) = true) : EntOk K mg ent12 :=
  ent_mk (w := w) (e := ent12) X G a12 l12 c12 k12 rfl b12
theorem b13 (kV doc pm : Value) (an : Option Addr) (cdv ct : Value) (us : List Value) (hl : us.length = 2) : bindArgs (PySem.W.fnOf "_law_cell" "_law_cell" (defArgs (topS 19)) (defBody (topS 19)) (defScope (topS 19)) .none kV doc pm an cdv ct) ⟨us, []⟩ = pure ((["script", "k"] : List Str).zip us) := match us, hl with | [_, _], _ => rfl
theorem e13 {w : World} {K : PySem.W.Frag} {h : Heap} {mg : Str → Option Value} (X : K.In h) (G : h.Ns mainGlobals mg) {f13 : Addr} {od13 an13 : Option Addr} {sl13 : Array (Option Value)} {oc13 kV13 dc13 pm13 cd13 ct13 : Value} (a13 : PySem.W.nsIn K mainGlobals "_law_cell" = some (some (.ref f13))) (l13 : K.lookup f13 = some ⟨oc13, od13, .func (PySem.W.fnOf "_law_cell" "_law_cell" (defArgs (topS 19)) (defBody (topS 19)) (defScope (topS 19)) .none kV13 dc13 pm13 an13 cd13 ct13), sl13⟩) (c13 : PySem.W.codeIn K cd13 "_law_cell" = true) (k13 : PySem.W.keepIn K (.ref f13) = true) : EntOk K mg ent13 :=
  ent_mk (w := w) (e := ent13) X G a13 l13 c13 k13 rfl b13
theorem b14 (kV doc pm : Value) (an : Option Addr) (cdv ct : Value) (us : List Value) (hl : us.length = 3) : bindArgs (PySem.W.fnOf "_law_row" "_law_row" (defArgs (topS 20)) (defBody (topS 20)) (defScope (topS 20)) .none kV doc pm an cdv ct) ⟨us, []⟩ = pure ((["cell", "size", "base"] : List Str).zip us) := match us, hl with | [_, _, _], _ => rfl
theorem e14 {w : World} {K : PySem.W.Frag} {h : Heap} {mg : Str → Option Value} (X : K.In h) (G : h.Ns mainGlobals mg) {f14 : Addr} {od14 an14 : Option Addr} {sl14 : Array (Option Value)} {oc14 kV14 dc14 pm14 cd14 ct14 : Value} (a14 : PySem.W.nsIn K mainGlobals "_law_row" = some (some (.ref f14))) (l14 : K.lookup f14 = some ⟨oc14, od14, .func (PySem.W.fnOf "_law_row" "_law_row" (defArgs (topS 20)) (defBody (topS 20)) (defScope (topS 20)) .none kV14 dc14 pm14 an14 cd14 ct14), sl14⟩) (c14 : PySem.W.codeIn K cd14 "_law_row" = true) (k14 : PySem.W.keepIn K (.ref f14) = true) : EntOk K mg ent14 :=
  ent_mk (w := w) (e := ent14) X G a14 l14 c14 k14 rfl b14
theorem b15 (kV doc pm : Value) (an : Option Addr) (cdv ct : Value) (us : List Value) (hl : us.length = 2) : bindArgs (PySem.W.fnOf "_law_fraction" "_law_fraction" (defArgs (topS 21)) (defBody (topS 21)) (defScope (topS 21)) .none kV doc pm an cdv ct) ⟨us, []⟩ = pure ((["number", "divisor"] : List Str).zip us) := match us, hl with | [_, _], _ => rfl
theorem e15 {w : World} {K : PySem.W.Frag} {h : Heap} {mg : Str → Option Value} (X : K.In h) (G : h.Ns mainGlobals mg) {f15 : Addr} {od15 an15 : Option Addr} {sl15 : Array (Option Value)} {oc15 kV15 dc15 pm15 cd15 ct15 : Value} (a15 : PySem.W.nsIn K mainGlobals "_law_fraction" = some (some (.ref f15))) (l15 : K.lookup f15 = some ⟨oc15, od15, .func (PySem.W.fnOf "_law_fraction" "_law_fraction" (defArgs (topS 21)) (defBody (topS 21)) (defScope (topS 21)) .none kV15 dc15 pm15 an15 cd15 ct15), sl15⟩) (c15 : PySem.W.codeIn K cd15 "_law_fraction" = true) (k15 : PySem.W.keepIn K (.ref f15) = true) : EntOk K mg ent15 :=
  ent_mk (w := w) (e := ent15) X G a15 l15 c15 k15 rfl b15
theorem b16 (kV doc pm : Value) (an : Option Addr) (cdv ct : Value) (us : List Value) (hl : us.length = 2) : bindArgs (PySem.W.fnOf "_law_plus" "_law_plus" (defArgs (topS 22)) (defBody (topS 22)) (defScope (topS 22)) .none kV doc pm an cdv ct) ⟨us, []⟩ = pure ((["a", "b"] : List Str).zip us) := match us, hl with | [_, _], _ => rfl
theorem e16 {w : World} {K : PySem.W.Frag} {h : Heap} {mg : Str → Option Value} (X : K.In h) (G : h.Ns mainGlobals mg) {f16 : Addr} {od16 an16 : Option Addr} {sl16 : Array (Option Value)} {oc16 kV16 dc16 pm16 cd16 ct16 : Value} (a16 : PySem.W.nsIn K mainGlobals "_law_plus" = some (some (.ref f16))) (l16 : K.lookup f16 = some ⟨oc16, od16, .func (PySem.W.fnOf "_law_plus" "_law_plus" (defArgs (topS 22)) (defBody (topS 22)) (defScope (topS 22)) .none kV16 dc16 pm16 an16 cd16 ct16), sl16⟩) (c16 : PySem.W.codeIn K cd16 "_law_plus" = true) (k16 : PySem.W.keepIn K (.ref f16) = true) : EntOk K mg ent16 :=
  ent_mk (w := w) (e := ent16) X G a16 l16 c16 k16 rfl b16
theorem b17 (kV doc pm : Value) (an : Option Addr) (cdv ct : Value) (us : List Value) (hl : us.length = 2) : bindArgs (PySem.W.fnOf "_law_times" "_law_times" (defArgs (topS 23)) (defBody (topS 23)) (defScope (topS 23)) .none kV doc pm an cdv ct) ⟨us, []⟩ = pure ((["a", "b"] : List Str).zip us) := match us, hl with | [_, _], _ => rfl
theorem e17 {w : World} {K : PySem.W.Frag} {h : Heap} {mg : Str → Option Value} (X : K.In h) (G : h.Ns mainGlobals mg) {f17 : Addr} {od17 an17 : Option Addr} {sl17 : Array (Option Value)} {oc17 kV17 dc17 pm17 cd17 ct17 : Value} (a17 : PySem.W.nsIn K mainGlobals "_law_times" = some (some (.ref f17))) (l17 : K.lookup f17 = some ⟨oc17, od17, .func (PySem.W.fnOf "_law_times" "_law_times" (defArgs (topS 23)) (defBody (topS 23)) (defScope (topS 23)) .none kV17 dc17 pm17 an17 cd17 ct17), sl17⟩) (c17 : PySem.W.codeIn K cd17 "_law_times" = true) (k17 : PySem.W.keepIn K (.ref f17) = true) : EntOk K mg ent17 :=
  ent_mk (w := w) (e := ent17) X G a17 l17 c17 k17 rfl b17
theorem b18 (kV doc pm : Value) (an : Option Addr) (cdv ct : Value) (us : List Value) (hl : us.length = 1) : bindArgs (PySem.W.fnOf "_law_is_fraction" "_law_is_fraction" (defArgs (topS 25)) (defBody (topS 25)) (defScope (topS 25)) .none kV doc pm an cdv ct) ⟨us, []⟩ = pure ((["actual"] : List Str).zip us) := match us, hl with | [_], _ => rfl
theorem e18 {w : World} {K : PySem.W.Frag} {h : Heap} {mg : Str → Option Value} (X : K.In h) (G : h.Ns mainGlobals mg) {f18 : Addr} {od18 an18 : Option Addr} {sl18 : Array (Option Value)} {oc18 kV18 dc18 pm18 cd18 ct18 : Value} (a18 : PySem.W.nsIn K mainGlobals "_law_is_fraction" = some (some (.ref f18))) (l18 : K.lookup f18 = some ⟨oc18, od18, .func (PySem.W.fnOf "_law_is_fraction" "_law_is_fraction" (defArgs (topS 25)) (defBody (topS 25)) (defScope (topS 25)) .none kV18 dc18 pm18 an18 cd18 ct18), sl18⟩) (c18 : PySem.W.codeIn K cd18 "_law_is_fraction" = true) (k18 : PySem.W.keepIn K (.ref f18) = true) : EntOk K mg ent18 :=
  ent_mk (w := w) (e := ent18) X G a18 l18 c18 k18 rfl b18
theorem b19 (kV doc pm : Value) (an : Option Addr) (cdv ct : Value) (us : List Value) (hl : us.length = 2) : bindArgs (PySem.W.fnOf "_law_over" "_law_over" (defArgs (topS 28)) (defBody (topS 28)) (defScope (topS 28)) .none kV doc pm an cdv ct) ⟨us, []⟩ = pure ((["a", "b"] : List Str).zip us) := match us, hl with | [_, _], _ => rfl
theorem e19 {w : World} {K : PySem.W.Frag} {h : Heap} {mg : Str → Option Value} (X : K.In h) (G : h.Ns mainGlobals mg) {f19 : Addr} {od19 an19 : Option Addr} {sl19 : Array (Option Value)} {oc19 kV19 dc19 pm19 cd19 ct19 : Value} (a19 : PySem.W.nsIn K mainGlobals "_law_over" = some (some (.ref f19))) (l19 : K.lookup f19 = some ⟨oc19, od19, .func (PySem.W.fnOf "_law_over" "_law_over" (defArgs (topS 28)) (defBody (topS 28)) (defScope (topS 28)) .none kV19 dc19 pm19 an19 cd19 ct19), sl19⟩) (c19 : PySem.W.codeIn K cd19 "_law_over" = true) (k19 : PySem.W.keepIn K (.ref f19) = true) : EntOk K mg ent19 :=
  ent_mk (w := w) (e := ent19) X G a19 l19 c19 k19 rfl b19
theorem b20 (kV doc pm : Value) (an : Option Addr) (cdv ct : Value) (us : List Value) (hl : us.length = 1) : bindArgs (PySem.W.fnOf "_law_rank" "_law_rank" (defArgs (topS 29)) (defBody (topS 29)) (defScope (topS 29)) .none kV doc pm an cdv ct) ⟨us, []⟩ = pure ((["rows"] : List Str).zip us) := match us, hl with | [_], _ => rfl
theorem e20 {w : World} {K : PySem.W.Frag} {h : Heap} {mg : Str → Option Value} (X : K.In h) (G : h.Ns mainGlobals mg) {f20 : Addr} {od20 an20 : Option Addr} {sl20 : Array (Option Value)} {oc20 kV20 dc20 pm20 cd20 ct20 : Value} (a20 : PySem.W.nsIn K mainGlobals "_law_rank" = some (some (.ref f20))) (l20 : K.lookup f20 = some ⟨oc20, od20, .func (PySem.W.fnOf "_law_rank" "_law_rank" (defArgs (topS 29)) (defBody (topS 29)) (defScope (topS 29)) .none kV20 dc20 pm20 an20 cd20 ct20), sl20⟩) (c20 : PySem.W.codeIn K cd20 "_law_rank" = true) (k20 : PySem.W.keepIn K (.ref f20) = true) : EntOk K mg ent20 :=
  ent_mk (w := w) (e := ent20) X G a20 l20 c20 k20 rfl b20
theorem b21 (kV doc pm : Value) (an : Option Addr) (cdv ct : Value) (us : List Value) (hl : us.length = 5) : bindArgs (PySem.W.fnOf "_law_equations" "_law_equations" (defArgs (topS 30)) (defBody (topS 30)) (defScope (topS 30)) .none kV doc pm an cdv ct) ⟨us, []⟩ = pure ((["script", "first", "many", "count", "point"] : List Str).zip us) := match us, hl with | [_, _, _, _, _], _ => rfl
theorem e21 {w : World} {K : PySem.W.Frag} {h : Heap} {mg : Str → Option Value} (X : K.In h) (G : h.Ns mainGlobals mg) {f21 : Addr} {od21 an21 : Option Addr} {sl21 : Array (Option Value)} {oc21 kV21 dc21 pm21 cd21 ct21 : Value} (a21 : PySem.W.nsIn K mainGlobals "_law_equations" = some (some (.ref f21))) (l21 : K.lookup f21 = some ⟨oc21, od21, .func (PySem.W.fnOf "_law_equations" "_law_equations" (defArgs (topS 30)) (defBody (topS 30)) (defScope (topS 30)) .none kV21 dc21 pm21 an21 cd21 ct21), sl21⟩) (c21 : PySem.W.codeIn K cd21 "_law_equations" = true) (k21 : PySem.W.keepIn K (.ref f21) = true) : EntOk K mg ent21 :=
  ent_mk (w := w) (e := ent21) X G a21 l21 c21 k21 rfl b21
theorem b22 (kV doc pm : Value) (an : Option Addr) (cdv ct : Value) (us : List Value) (hl : us.length = 1) : bindArgs (PySem.W.fnOf "law" "law" (defArgs (topS 31)) (defBody (topS 31)) (defScope (topS 31)) .none kV doc pm an cdv ct) ⟨us, []⟩ = pure ((["script"] : List Str).zip us) := match us, hl with | [_], _ => rfl
theorem e22 {w : World} {K : PySem.W.Frag} {h : Heap} {mg : Str → Option Value} (X : K.In h) (G : h.Ns mainGlobals mg) {f22 : Addr} {od22 an22 : Option Addr} {sl22 : Array (Option Value)} {oc22 kV22 dc22 pm22 cd22 ct22 : Value} (a22 : PySem.W.nsIn K mainGlobals "law" = some (some (.ref f22))) (l22 : K.lookup f22 = some ⟨oc22, od22, .func (PySem.W.fnOf "law" "law" (defArgs (topS 31)) (defBody (topS 31)) (defScope (topS 31)) .none kV22 dc22 pm22 an22 cd22 ct22), sl22⟩) (c22 : PySem.W.codeIn K cd22 "law" = true) (k22 : PySem.W.keepIn K (.ref f22) = true) : EntOk K mg ent22 :=
  ent_mk (w := w) (e := ent22) X G a22 l22 c22 k22 rfl b22
theorem all_mk {l : PySem.W.OpenLaw} {w : World} {K : PySem.W.Frag} {h : Heap} {mg : Str → Option Value} {fa : Addr} (X : K.In h) (G : h.Ns mainGlobals mg) (hfa : mg "law" = some (.ref fa))
    {f0 : Addr} {od0 an0 : Option Addr} {sl0 : Array (Option Value)} {oc0 kV0 dc0 pm0 cd0 ct0 : Value} (a0 : PySem.W.nsIn K mainGlobals "common" = some (some (.ref f0))) (l0 : K.lookup f0 = some ⟨oc0, od0, .func (PySem.W.fnOf "common" "common" (defArgs (topS 4)) (defBody (topS 4)) (defScope (topS 4)) .none kV0 dc0 pm0 an0 cd0 ct0), sl0⟩) (c0 : PySem.W.codeIn K cd0 "common" = true) (k0 : PySem.W.keepIn K (.ref f0) = true)
    {f1 : Addr} {od1 an1 : Option Addr} {sl1 : Array (Option Value)} {oc1 kV1 dc1 pm1 cd1 ct1 : Value} {T1 : Addr} {o1 : Obj} {tk1 : Tok} {n1 : Nat} (a1 : PySem.W.nsIn K mainGlobals "fraction" = some (some (.ref f1))) (l1 : K.lookup f1 = some ⟨oc1, od1, .func (PySem.W.fnOf "fraction" "fraction" (defArgs (topS 5)) (defBody (topS 5)) (defScope (topS 5)) (.ref T1) kV1 dc1 pm1 an1 cd1 ct1), sl1⟩) (c1 : PySem.W.codeIn K cd1 "fraction" = true) (k1 : PySem.W.keepIn K (.ref f1) = true) (q1 : K.lookup T1 = some o1) (r1 : o1.data = .seq #[.int 1 tk1] n1)
    {f2 : Addr} {od2 an2 : Option Addr} {sl2 : Array (Option Value)} {oc2 kV2 dc2 pm2 cd2 ct2 : Value} (a2 : PySem.W.nsIn K mainGlobals "minus" = some (some (.ref f2))) (l2 : K.lookup f2 = some ⟨oc2, od2, .func (PySem.W.fnOf "minus" "minus" (defArgs (topS 6)) (defBody (topS 6)) (defScope (topS 6)) .none kV2 dc2 pm2 an2 cd2 ct2), sl2⟩) (c2 : PySem.W.codeIn K cd2 "minus" = true) (k2 : PySem.W.keepIn K (.ref f2) = true)
    {f3 : Addr} {od3 an3 : Option Addr} {sl3 : Array (Option Value)} {oc3 kV3 dc3 pm3 cd3 ct3 : Value} (a3 : PySem.W.nsIn K mainGlobals "times" = some (some (.ref f3))) (l3 : K.lookup f3 = some ⟨oc3, od3, .func (PySem.W.fnOf "times" "times" (defArgs (topS 7)) (defBody (topS 7)) (defScope (topS 7)) .none kV3 dc3 pm3 an3 cd3 ct3), sl3⟩) (c3 : PySem.W.codeIn K cd3 "times" = true) (k3 : PySem.W.keepIn K (.ref f3) = true)
    {f4 : Addr} {od4 an4 : Option Addr} {sl4 : Array (Option Value)} {oc4 kV4 dc4 pm4 cd4 ct4 : Value} (a4 : PySem.W.nsIn K mainGlobals "over" = some (some (.ref f4))) (l4 : K.lookup f4 = some ⟨oc4, od4, .func (PySem.W.fnOf "over" "over" (defArgs (topS 8)) (defBody (topS 8)) (defScope (topS 8)) .none kV4 dc4 pm4 an4 cd4 ct4), sl4⟩) (c4 : PySem.W.codeIn K cd4 "over" = true) (k4 : PySem.W.keepIn K (.ref f4) = true)
    {f5 : Addr} {od5 an5 : Option Addr} {sl5 : Array (Option Value)} {oc5 kV5 dc5 pm5 cd5 ct5 : Value} (a5 : PySem.W.nsIn K mainGlobals "taken_from" = some (some (.ref f5))) (l5 : K.lookup f5 = some ⟨oc5, od5, .func (PySem.W.fnOf "taken_from" "taken_from" (defArgs (topS 10)) (defBody (topS 10)) (defScope (topS 10)) .none kV5 dc5 pm5 an5 cd5 ct5), sl5⟩) (c5 : PySem.W.codeIn K cd5 "taken_from" = true) (k5 : PySem.W.keepIn K (.ref f5) = true)
    {f6 : Addr} {od6 an6 : Option Addr} {sl6 : Array (Option Value)} {oc6 kV6 dc6 pm6 cd6 ct6 : Value} (a6 : PySem.W.nsIn K mainGlobals "leading" = some (some (.ref f6))) (l6 : K.lookup f6 = some ⟨oc6, od6, .func (PySem.W.fnOf "leading" "leading" (defArgs (topS 11)) (defBody (topS 11)) (defScope (topS 11)) .none kV6 dc6 pm6 an6 cd6 ct6), sl6⟩) (c6 : PySem.W.codeIn K cd6 "leading" = true) (k6 : PySem.W.keepIn K (.ref f6) = true)
    {f7 : Addr} {od7 an7 : Option Addr} {sl7 : Array (Option Value)} {oc7 kV7 dc7 pm7 cd7 ct7 : Value} (a7 : PySem.W.nsIn K mainGlobals "divided" = some (some (.ref f7))) (l7 : K.lookup f7 = some ⟨oc7, od7, .func (PySem.W.fnOf "divided" "divided" (defArgs (topS 12)) (defBody (topS 12)) (defScope (topS 12)) .none kV7 dc7 pm7 an7 cd7 ct7), sl7⟩) (c7 : PySem.W.codeIn K cd7 "divided" = true) (k7 : PySem.W.keepIn K (.ref f7) = true)
    {f8 : Addr} {od8 an8 : Option Addr} {sl8 : Array (Option Value)} {oc8 kV8 dc8 pm8 cd8 ct8 : Value} (a8 : PySem.W.nsIn K mainGlobals "reduced" = some (some (.ref f8))) (l8 : K.lookup f8 = some ⟨oc8, od8, .func (PySem.W.fnOf "reduced" "reduced" (defArgs (topS 13)) (defBody (topS 13)) (defScope (topS 13)) .none kV8 dc8 pm8 an8 cd8 ct8), sl8⟩) (c8 : PySem.W.codeIn K cd8 "reduced" = true) (k8 : PySem.W.keepIn K (.ref f8) = true)
    {f9 : Addr} {od9 an9 : Option Addr} {sl9 : Array (Option Value)} {oc9 kV9 dc9 pm9 cd9 ct9 : Value} (a9 : PySem.W.nsIn K mainGlobals "joined" = some (some (.ref f9))) (l9 : K.lookup f9 = some ⟨oc9, od9, .func (PySem.W.fnOf "joined" "joined" (defArgs (topS 14)) (defBody (topS 14)) (defScope (topS 14)) .none kV9 dc9 pm9 an9 cd9 ct9), sl9⟩) (c9 : PySem.W.codeIn K cd9 "joined" = true) (k9 : PySem.W.keepIn K (.ref f9) = true)
    {f10 : Addr} {od10 an10 : Option Addr} {sl10 : Array (Option Value)} {oc10 kV10 dc10 pm10 cd10 ct10 : Value} (a10 : PySem.W.nsIn K mainGlobals "settle" = some (some (.ref f10))) (l10 : K.lookup f10 = some ⟨oc10, od10, .func (PySem.W.fnOf "settle" "settle" (defArgs (topS 15)) (defBody (topS 15)) (defScope (topS 15)) .none kV10 dc10 pm10 an10 cd10 ct10), sl10⟩) (c10 : PySem.W.codeIn K cd10 "settle" = true) (k10 : PySem.W.keepIn K (.ref f10) = true)
    {f11 : Addr} {od11 an11 : Option Addr} {sl11 : Array (Option Value)} {oc11 kV11 dc11 pm11 cd11 ct11 : Value} (a11 : PySem.W.nsIn K mainGlobals "worth_of" = some (some (.ref f11))) (l11 : K.lookup f11 = some ⟨oc11, od11, .func (PySem.W.fnOf "worth_of" "worth_of" (defArgs (topS 16)) (defBody (topS 16)) (defScope (topS 16)) .none kV11 dc11 pm11 an11 cd11 ct11), sl11⟩) (c11 : PySem.W.codeIn K cd11 "worth_of" = true) (k11 : PySem.W.keepIn K (.ref f11) = true)
    {f12 : Addr} {od12 an12 : Option Addr} {sl12 : Array (Option Value)} {oc12 kV12 dc12 pm12 cd12 ct12 : Value} (a12 : PySem.W.nsIn K mainGlobals "_law_is_integer" = some (some (.ref f12))) (l12 : K.lookup f12 = some ⟨oc12, od12, .func (PySem.W.fnOf "_law_is_integer" "_law_is_integer" (defArgs (topS 18)) (defBody (topS 18)) (defScope (topS 18)) .none kV12 dc12 pm12 an12 cd12 ct12), sl12⟩) (c12 : PySem.W.codeIn K cd12 "_law_is_integer" = true) (k12 : PySem.W.keepIn K (.ref f12) = true)
    {f13 : Addr} {od13 an13 : Option Addr} {sl13 : Array (Option Value)} {oc13 kV13 dc13 pm13 cd13 ct13 : Value} (a13 : PySem.W.nsIn K mainGlobals "_law_cell" = some (some (.ref f13))) (l13 : K.lookup f13 = some ⟨oc13, od13, .func (PySem.W.fnOf "_law_cell" "_law_cell" (defArgs (topS 19)) (defBody (topS 19)) (defScope (topS 19)) .none kV13 dc13 pm13 an13 cd13 ct13), sl13⟩) (c13 : PySem.W.codeIn K cd13 "_law_cell" = true) (k13 : PySem.W.keepIn K (.ref f13) = true)
    {f14 : Addr} {od14 an14 : Option Addr} {sl14 : Array (Option Value)} {oc14 kV14 dc14 pm14 cd14 ct14 : Value} (a14 : PySem.W.nsIn K mainGlobals "_law_row" = some (some (.ref f14))) (l14 : K.lookup f14 = some ⟨oc14, od14, .func (PySem.W.fnOf "_law_row" "_law_row" (defArgs (topS 20)) (defBody (topS 20)) (defScope (topS 20)) .none kV14 dc14 pm14 an14 cd14 ct14), sl14⟩) (c14 : PySem.W.codeIn K cd14 "_law_row" = true) (k14 : PySem.W.keepIn K (.ref f14) = true)
    {f15 : Addr} {od15 an15 : Option Addr} {sl15 : Array (Option Value)} {oc15 kV15 dc15 pm15 cd15 ct15 : Value} (a15 : PySem.W.nsIn K mainGlobals "_law_fraction" = some (some (.ref f15))) (l15 : K.lookup f15 = some ⟨oc15, od15, .func (PySem.W.fnOf "_law_fraction" "_law_fraction" (defArgs (topS 21)) (defBody (topS 21)) (defScope (topS 21)) .none kV15 dc15 pm15 an15 cd15 ct15), sl15⟩) (c15 : PySem.W.codeIn K cd15 "_law_fraction" = true) (k15 : PySem.W.keepIn K (.ref f15) = true)
    {f16 : Addr} {od16 an16 : Option Addr} {sl16 : Array (Option Value)} {oc16 kV16 dc16 pm16 cd16 ct16 : Value} (a16 : PySem.W.nsIn K mainGlobals "_law_plus" = some (some (.ref f16))) (l16 : K.lookup f16 = some ⟨oc16, od16, .func (PySem.W.fnOf "_law_plus" "_law_plus" (defArgs (topS 22)) (defBody (topS 22)) (defScope (topS 22)) .none kV16 dc16 pm16 an16 cd16 ct16), sl16⟩) (c16 : PySem.W.codeIn K cd16 "_law_plus" = true) (k16 : PySem.W.keepIn K (.ref f16) = true)
    {f17 : Addr} {od17 an17 : Option Addr} {sl17 : Array (Option Value)} {oc17 kV17 dc17 pm17 cd17 ct17 : Value} (a17 : PySem.W.nsIn K mainGlobals "_law_times" = some (some (.ref f17))) (l17 : K.lookup f17 = some ⟨oc17, od17, .func (PySem.W.fnOf "_law_times" "_law_times" (defArgs (topS 23)) (defBody (topS 23)) (defScope (topS 23)) .none kV17 dc17 pm17 an17 cd17 ct17), sl17⟩) (c17 : PySem.W.codeIn K cd17 "_law_times" = true) (k17 : PySem.W.keepIn K (.ref f17) = true)
    {f18 : Addr} {od18 an18 : Option Addr} {sl18 : Array (Option Value)} {oc18 kV18 dc18 pm18 cd18 ct18 : Value} (a18 : PySem.W.nsIn K mainGlobals "_law_is_fraction" = some (some (.ref f18))) (l18 : K.lookup f18 = some ⟨oc18, od18, .func (PySem.W.fnOf "_law_is_fraction" "_law_is_fraction" (defArgs (topS 25)) (defBody (topS 25)) (defScope (topS 25)) .none kV18 dc18 pm18 an18 cd18 ct18), sl18⟩) (c18 : PySem.W.codeIn K cd18 "_law_is_fraction" = true) (k18 : PySem.W.keepIn K (.ref f18) = true)
    {f19 : Addr} {od19 an19 : Option Addr} {sl19 : Array (Option Value)} {oc19 kV19 dc19 pm19 cd19 ct19 : Value} (a19 : PySem.W.nsIn K mainGlobals "_law_over" = some (some (.ref f19))) (l19 : K.lookup f19 = some ⟨oc19, od19, .func (PySem.W.fnOf "_law_over" "_law_over" (defArgs (topS 28)) (defBody (topS 28)) (defScope (topS 28)) .none kV19 dc19 pm19 an19 cd19 ct19), sl19⟩) (c19 : PySem.W.codeIn K cd19 "_law_over" = true) (k19 : PySem.W.keepIn K (.ref f19) = true)
    {f20 : Addr} {od20 an20 : Option Addr} {sl20 : Array (Option Value)} {oc20 kV20 dc20 pm20 cd20 ct20 : Value} (a20 : PySem.W.nsIn K mainGlobals "_law_rank" = some (some (.ref f20))) (l20 : K.lookup f20 = some ⟨oc20, od20, .func (PySem.W.fnOf "_law_rank" "_law_rank" (defArgs (topS 29)) (defBody (topS 29)) (defScope (topS 29)) .none kV20 dc20 pm20 an20 cd20 ct20), sl20⟩) (c20 : PySem.W.codeIn K cd20 "_law_rank" = true) (k20 : PySem.W.keepIn K (.ref f20) = true)
    {f21 : Addr} {od21 an21 : Option Addr} {sl21 : Array (Option Value)} {oc21 kV21 dc21 pm21 cd21 ct21 : Value} (a21 : PySem.W.nsIn K mainGlobals "_law_equations" = some (some (.ref f21))) (l21 : K.lookup f21 = some ⟨oc21, od21, .func (PySem.W.fnOf "_law_equations" "_law_equations" (defArgs (topS 30)) (defBody (topS 30)) (defScope (topS 30)) .none kV21 dc21 pm21 an21 cd21 ct21), sl21⟩) (c21 : PySem.W.codeIn K cd21 "_law_equations" = true) (k21 : PySem.W.keepIn K (.ref f21) = true)
    {f22 : Addr} {od22 an22 : Option Addr} {sl22 : Array (Option Value)} {oc22 kV22 dc22 pm22 cd22 ct22 : Value} (a22 : PySem.W.nsIn K mainGlobals "law" = some (some (.ref f22))) (l22 : K.lookup f22 = some ⟨oc22, od22, .func (PySem.W.fnOf "law" "law" (defArgs (topS 31)) (defBody (topS 31)) (defScope (topS 31)) .none kV22 dc22 pm22 an22 cd22 ct22), sl22⟩) (c22 : PySem.W.codeIn K cd22 "law" = true) (k22 : PySem.W.keepIn K (.ref f22) = true)
    (z0 : PySem.W.nsIn K mainGlobals "len" = some none) (z1 : PySem.W.nsIn K mainGlobals "abs" = some none) (z2 : PySem.W.nsIn K mainGlobals "int" = some none) (z3 : PySem.W.nsIn K mainGlobals "list" = some none) (z4 : PySem.W.nsIn K mainGlobals "tuple" = some none) (z5 : PySem.W.nsIn K mainGlobals "isinstance" = some none) (z6 : PySem.W.nsIn K mainGlobals "range" = some none) (z7 : PySem.W.nsIn K mainGlobals "bool" = some none) (z8 : PySem.W.nsIn K mainGlobals "str" = some none) :
    ∃ fd : FuncData, (∀ (s : Shared) (v : Value), BindsTo s fd ⟨[v], []⟩ [("script", v)]) ∧ ∀ base : Heap, K.In base → base.Ns mainGlobals mg → FnOk l.prog w K mg base CX0 40 fa fd ["script"] (MP.spLaw K) := by
  have hE : ∀ e ∈ es, EntOk K mg e := by
    refine List.forall_mem_cons.mpr ⟨e0 (w := w) X G a0 l0 c0 k0, ?_⟩
    refine List.forall_mem_cons.mpr ⟨e1 (w := w) X G a1 l1 c1 k1 q1 r1, ?_⟩
    refine List.forall_mem_cons.mpr ⟨e2 (w := w) X G a2 l2 c2 k2, ?_⟩
    refine List.forall_mem_cons.mpr ⟨e3 (w := w) X G a3 l3 c3 k3, ?_⟩
    refine List.forall_mem_cons.mpr ⟨e4 (w := w) X G a4 l4 c4 k4, ?_⟩
    refine List.forall_mem_cons.mpr ⟨e5 (w := w) X G a5 l5 c5 k5, ?_⟩
    refine List.forall_mem_cons.mpr ⟨e6 (w := w) X G a6 l6 c6 k6, ?_⟩
    refine List.forall_mem_cons.mpr ⟨e7 (w := w) X G a7 l7 c7 k7, ?_⟩
    refine List.forall_mem_cons.mpr ⟨e8 (w := w) X G a8 l8 c8 k8, ?_⟩
    refine List.forall_mem_cons.mpr ⟨e9 (w := w) X G a9 l9 c9 k9, ?_⟩
    refine List.forall_mem_cons.mpr ⟨e10 (w := w) X G a10 l10 c10 k10, ?_⟩
    refine List.forall_mem_cons.mpr ⟨e11 (w := w) X G a11 l11 c11 k11, ?_⟩
    refine List.forall_mem_cons.mpr ⟨e12 (w := w) X G a12 l12 c12 k12, ?_⟩
    refine List.forall_mem_cons.mpr ⟨e13 (w := w) X G a13 l13 c13 k13, ?_⟩
    refine List.forall_mem_cons.mpr ⟨e14 (w := w) X G a14 l14 c14 k14, ?_⟩
    refine List.forall_mem_cons.mpr ⟨e15 (w := w) X G a15 l15 c15 k15, ?_⟩
    refine List.forall_mem_cons.mpr ⟨e16 (w := w) X G a16 l16 c16 k16, ?_⟩
    refine List.forall_mem_cons.mpr ⟨e17 (w := w) X G a17 l17 c17 k17, ?_⟩
    refine List.forall_mem_cons.mpr ⟨e18 (w := w) X G a18 l18 c18 k18, ?_⟩
    refine List.forall_mem_cons.mpr ⟨e19 (w := w) X G a19 l19 c19 k19, ?_⟩
    refine List.forall_mem_cons.mpr ⟨e20 (w := w) X G a20 l20 c20 k20, ?_⟩
    refine List.forall_mem_cons.mpr ⟨e21 (w := w) X G a21 l21 c21 k21, ?_⟩
    refine List.forall_mem_cons.mpr ⟨e22 (w := w) X G a22 l22 c22 k22, ?_⟩
    exact fun _ h => nomatch h
  have bl : ∀ x ∈ ([("len" : Str), "abs", "int", "list", "tuple", "isinstance", "range", "bool", "str"] : List Str), mg x = none := by
    simp only [List.forall_mem_cons]
    exact ⟨PySem.W.mg_none_of X G z0, PySem.W.mg_none_of X G z1, PySem.W.mg_none_of X G z2, PySem.W.mg_none_of X G z3, PySem.W.mg_none_of X G z4, PySem.W.mg_none_of X G z5, PySem.W.mg_none_of X G z6, PySem.W.mg_none_of X G z7, PySem.W.mg_none_of X G z8, fun _ h => nomatch h⟩
  have hl : es[22]? = some ent22 := rfl
  obtain ⟨qual, dvs, kws, a, fdt, F, hm, _, hb⟩ := hE _ (List.mem_of_getElem? hl)
  have e : a = fa := by
    have := hm.symm.trans hfa
    cases this
    rfl
  subst e
  exact ⟨fdt, fun s u => hb rfl s u rfl, fun base _ _ => (tab_fn (ob := ob0) (wf := 20000) es_chk hE bl 40 22 _ hl F).imp fun vs H Q E z => law_sp (fun ns h => plain ns h) vs H Q E z⟩
end K15
open PySem PySem.W PyProof.Rows
set_option maxHeartbeats 0 in
theorem PySem.Challenge.cw_trueshop_k15_equations_settled_holds : PySem.Challenge.rw_trueshop_k15_equations_settled.Holds := by
  w_on; o_law; k_head; (case hw => w_witness2)
  k_fill
  refine L2.walk_ofK (l := PySem.Challenge.rw_trueshop_k15_equations_settled) (n := 63) (k := 40) (x := "script") (CX := L2.CX0) (sp := MP.spLaw) rfl (by decide) rfl ⟨rfl, by decide, by decide⟩ (fun w h Y => PySem.W.kIn_of Y) ?F (fun K H a ns hl _ hS => ⟨a, ns, rfl, hS, hl, fun _ => rfl⟩) (fun _ _ _ _ h => h)
  case F =>
    intro w mg fa h KX G hmg
    refine' K15.all_mk KX G hmg ?a0 ?l0 ?c0 ?k0 ?a1 ?l1 ?c1 ?k1 ?q1 ?r1 ?a2 ?l2 ?c2 ?k2 ?a3 ?l3 ?c3 ?k3 ?a4 ?l4 ?c4 ?k4 ?a5 ?l5 ?c5 ?k5 ?a6 ?l6 ?c6 ?k6 ?a7 ?l7 ?c7 ?k7 ?a8 ?l8 ?c8 ?k8 ?a9 ?l9 ?c9 ?k9 ?a10 ?l10 ?c10 ?k10 ?a11 ?l11 ?c11 ?k11 ?a12 ?l12 ?c12 ?k12 ?a13 ?l13 ?c13 ?k13 ?a14 ?l14 ?c14 ?k14 ?a15 ?l15 ?c15 ?k15 ?a16 ?l16 ?c16 ?k16 ?a17 ?l17 ?c17 ?k17 ?a18 ?l18 ?c18 ?k18 ?a19 ?l19 ?c19 ?k19 ?a20 ?l20 ?c20 ?k20 ?a21 ?l21 ?c21 ?k21 ?a22 ?l22 ?c22 ?k22 ?z0 ?z1 ?z2 ?z3 ?z4 ?z5 ?z6 ?z7 ?z8
    (case a0 => k_is);
    (case l0 => k_is);
    (case c0 => k_is);
    (case k0 => k_is);
    (case a1 => k_is);
    (case l1 => k_is);
    (case c1 => k_is);
    (case k1 => k_is);
    (case q1 => k_is);
    (case r1 => rfl);
    (case a2 => k_is);
    (case l2 => k_is);
    (case c2 => k_is);
    (case k2 => k_is);
    (case a3 => k_is);
    (case l3 => k_is);
    (case c3 => k_is);
    (case k3 => k_is);
    (case a4 => k_is);
    (case l4 => k_is);
    (case c4 => k_is);
    (case k4 => k_is);
    (case a5 => k_is);
    (case l5 => k_is);
    (case c5 => k_is);
    (case k5 => k_is);
    (case a6 => k_is);
    (case l6 => k_is);
    (case c6 => k_is);
    (case k6 => k_is);
    (case a7 => k_is);
    (case l7 => k_is);
    (case c7 => k_is);
    (case k7 => k_is);
    (case a8 => k_is);
    (case l8 => k_is);
    (case c8 => k_is);
    (case k8 => k_is);
    (case a9 => k_is);
    (case l9 => k_is);
    (case c9 => k_is);
    (case k9 => k_is);
    (case a10 => k_is);
    (case l10 => k_is);
    (case c10 => k_is);
    (case k10 => k_is);
    (case a11 => k_is);
    (case l11 => k_is);
    (case c11 => k_is);
    (case k11 => k_is);
    (case a12 => k_is);
    (case l12 => k_is);
    (case c12 => k_is);
    (case k12 => k_is);
    (case a13 => k_is);
    (case l13 => k_is);
    (case c13 => k_is);
    (case k13 => k_is);
    (case a14 => k_is);
    (case l14 => k_is);
    (case c14 => k_is);
    (case k14 => k_is);
    (case a15 => k_is);
    (case l15 => k_is);
    (case c15 => k_is);
    (case k15 => k_is);
    (case a16 => k_is);
    (case l16 => k_is);
    (case c16 => k_is);
    (case k16 => k_is);
    (case a17 => k_is);
    (case l17 => k_is);
    (case c17 => k_is);
    (case k17 => k_is);
    (case a18 => k_is);
    (case l18 => k_is);
    (case c18 => k_is);
    (case k18 => k_is);
    (case a19 => k_is);
    (case l19 => k_is);
    (case c19 => k_is);
    (case k19 => k_is);
    (case a20 => k_is);
    (case l20 => k_is);
    (case c20 => k_is);
    (case k20 => k_is);
    (case a21 => k_is);
    (case l21 => k_is);
    (case c21 => k_is);
    (case k21 => k_is);
    (case a22 => k_is);
    (case l22 => k_is);
    (case c22 => k_is);
    (case k22 => k_is);
    (case z0 => k_is);
    (case z1 => k_is);
    (case z2 => k_is);
    (case z3 => k_is);
    (case z4 => k_is);
    (case z5 => k_is);
    (case z6 => k_is);
    (case z7 => k_is);
    (case z8 => k_is)

