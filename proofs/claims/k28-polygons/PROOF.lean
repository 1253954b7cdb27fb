import PyProof.Rows.All
import Wide.All
import OpenK.AllK
import Wide.FinOn
import HandS.ForMost
import KE.KeyNested
import KE.KDictKeyed
import HandS.More
import HandS.IsInst
import HandS.Wide
import HandS.Defaults
import HandS.Style
import PySem.Challenge.RW_trueshop_k28_polygons_without_others
set_option Elab.async false
set_option linter.all false
set_option maxRecDepth 100000
/-! MiniPy: data, syntax, evaluator. -/
namespace MP
open PySem L2

/-- data: trees; mut is the handle of a list that the def itself owns -/
inductive D where
  | non | bl (b : Bool) | int (i : Int) | str (x : Str)
  | tup (ds : List D) | lst (ds : List D) | own (ds : List D)
  | obj (t : Nat) (d : D)

mutual
def toPy : D → Option PyData
  | .non => some .none
  | .bl b => some (.bool b)
  | .int i => some (.int i)
  | .str x => some (.str x)
  | .tup ds => match toPys ds with | some es => some (.tuple es) | none => none
  | .lst ds => match toPys ds with | some es => some (.list es) | none => none
  | .own _ => none
  | .obj _ _ => none
def toPys : List D → Option (List PyData)
  | [] => some []
  | d :: ds => match toPy d, toPys ds with | some e, some es => some (e :: es) | _, _ => none
end
/-- an owned list as it stands -/
def seen : D → D
  | .own ds => .lst ds
  | d => d
def isOwn : D → Bool
  | .own _ => true
  | _ => false
def eqD (a b : D) : Option Bool := match toPy (seen a), toPy (seen b) with
  | some x, some y => if SeqAt.shaped x && SeqAt.shaped y then some (PyData.eqv x y) else none
  | _, _ => none

inductive BOp where | add | sub | mul | fdiv | mod | pow
  deriving DecidableEq
inductive COp where | lt | le | gt | ge | eq | ne | is | isnot
  deriving DecidableEq
/-- builtins by name -/
inductive Pm where | len | abs | int | list | tuple | isInt | isBool | isTuple | isList | isStr
  deriving DecidableEq

mutual
inductive E where
  | slot (i : Nat) | cint (i : Int) | cbl (b : Bool) | cnon | cstr (x : Str)
  | bin (op : BOp) (a b : E) | neg (a : E)
  | cmp (op : COp) (a b : E)
  | andV (es : Es) | orV (es : Es) | notV (a : E)
  | ite (t : T) (a b : E)
  | tup (es : Es) | lst (es : Es)
  | idx (a b : E) | slc (a : E) (lo hi : O)
  | call (f : Nat) (es : Es) (dv : List Int)
  | prim (p : Pm) (es : Es)
  | comp (elt : E) (tg : List Nat) (it : It) (ts : Ts) (own : List Nat)
  | dget (i : Nat) (k : E) | rev (a : E)
inductive Es where | nil | cons (e : E) (es : Es)
inductive O where | none | some (e : E)
inductive T where
  | tru (e : E) | cmp (op : COp) (a b : E) | chain (op op' : COp) (a b c : E)
  | and (ts : Ts) | or (ts : Ts) | not (t : T)
inductive Ts where | nil | cons (t : T) (ts : Ts)
inductive It where | rng1 (a : E) | rng2 (a b : E) | seq (e : E)
end
mutual
inductive S where
  | set (i : Nat) (e : E) | setM (i : Nat) (e : E) | unp (is : List Nat) (e : E) | par (i j : Nat) (a b : E)
  | aug (i : Nat) (op : BOp) (e : E)
  | app (i : Nat) (e : E) | setIx (i : Nat) (j e : E) | ins (i : Nat) (j e : E) | popTo (k i : Nat) (j : E)
  | popE (i : Nat)
  | ifS (t : T) (a b : Ss)
  | forS (tg : List Nat) (it : It) (body : Ss) | whileS (t : T) (body : Ss)
  | ret (e : E) | brk | cont | pass
  | frz (i : Nat) | bad
  | dnew (i : Nat) | dset (i : Nat) (k e : E)
inductive Ss where | nil | cons (s : S) (ss : Ss)
end

/-! keys of dicts: tuples of numbers, texts, None, and such tuples -/
mutual
def keyD : D → Option NestedKey
  | .non => some .none
  | .int i => some (.num i)
  | .str x => some (.text x)
  | .tup ds => match keyDs ds with | some ks => some (.tup ks) | none => none
  | _ => none
def keyDs : List D → Option (List NestedKey)
  | [] => some []
  | d :: ds => match keyD d, keyDs ds with | some k, some ks => some (k :: ks) | _, _ => none
end
def keyT (d : D) : Option NestedKey := match d with
  | .tup ds => (match keyD (.tup ds) with | some k => if decide (k.depth ≤ 8) then some k else none | none => none)
  | _ => none
def getK {α : Type} (kvs : List (NestedKey × α)) (k : NestedKey) : Option α := (kvs.find? fun p => decide (p.1 = k)).map (·.2)
def setK {α : Type} (kvs : List (NestedKey × α)) (k : NestedKey) (v : α) : List (NestedKey × α) :=
  if (getK kvs k).isSome then kvs.map (fun p => if p.1 = k then (p.1, v) else p) else kvs ++ [(k, v)]
/-- what a slot holds: nothing known; data; a list of the def's own; a dict of the def's own -/
inductive SV where | non | val (d : D) | mls (ds : List D) | mdc (kvs : List (NestedKey × D))
abbrev Rho := List SV
inductive Fl where | nx (ρ : Rho) | rt (d : D) | bk (ρ : Rho) | ct (ρ : Rho)

def line : Nat := 16777216
def mulOk (i j : Int) : Bool := decide (i.natAbs.log2 + j.natAbs.log2 < 1000000)
def binD (op : BOp) (a b : D) : Option D := match op, a, b with
  | .add, .int i, .int j => some (.int (i + j))
  | .sub, .int i, .int j => some (.int (i - j))
  | .mul, .int i, .int j => if mulOk i j then some (.int (i * j)) else none
  | .fdiv, .int i, .int j => if j = 0 then none else if decide (j.natAbs.log2 < 9000) then some (.int (i.fdiv j)) else none
  | .mod, .int i, .int j => if j = 0 then none else some (.int (i.fmod j))
  | .pow, .int i, .int j => if decide (0 ≤ j) && decide (j ≤ 1000000) && decide (i.natAbs < 2 ^ 64) then some (.int (i ^ j.toNat)) else none
  | .add, .str x, .str y => if decide (x.length + y.length ≤ line) then some (.str (x ++ y)) else none
  | .add, .tup (x :: xs), .tup ys => if decide ((x :: xs).length + ys.length ≤ line) then some (.tup (x :: xs ++ ys)) else none
  | _, _, _ => none
/-- a list from two -/
def catD (a b : D) : Option (List D) := match seen a, seen b with
  | .lst xs, .lst ys => if decide (xs.length + ys.length ≤ line) then some (xs ++ ys) else none
  | _, _ => none
def cmpD (op : COp) (a b : D) : Option Bool := match op with
  | .eq => eqD a b
  | .ne => (eqD a b).map (!·)
  | .is => match b with | .non => (match a with | .non => some true | .own _ => none | _ => some false) | _ => none
  | .isnot => match b with | .non => (match a with | .non => some false | .own _ => none | _ => some true) | _ => none
  | .lt => match a, b with | .int i, .int j => some (decide (i < j)) | _, _ => none
  | .le => match a, b with | .int i, .int j => some (decide (i ≤ j)) | _, _ => none
  | .gt => match a, b with | .int i, .int j => some (decide (j < i)) | _, _ => none
  | .ge => match a, b with | .int i, .int j => some (decide (j ≤ i)) | _, _ => none
def truD : D → Option Bool
  | .non => some false
  | .bl b => some b
  | .int i => some (i != 0)
  | .str x => if decide (x.length ≤ line) then some ((x.length : Int) != 0) else none
  | .lst ds => some !ds.isEmpty
  | .own ds => some !ds.isEmpty
  | .tup ds => some !ds.isEmpty
  | .obj _ _ => none
def ixD (a b : D) : Option D := match a, b with
  | .lst ds, .int i => atI ds i
  | .own ds, .int i => atI ds i
  | .tup ds, .int i => atI ds i
  | .str x, .int i => if decide (x.length ≤ line) then (atI x.cps.toList i).map (fun c => .str ⟨#[c]⟩) else none
  | _, _ => none
def cutD {α : Type} (xs : List α) (lo hi : Option Int) : List α :=
  (xs.drop (HT.sIx xs.length 0 lo)).take (HT.sIx xs.length xs.length hi - HT.sIx xs.length 0 lo)
def bl? : D → Option Bool | .bl b => some b | _ => none
def lst? : D → Option (List D) | .lst ds => some ds | .tup ds => some ds | .own ds => some ds | _ => none
def int? : D → Option Int | .int i => some i | _ => none
def pure? (d : D) : Option D := match d with | .own _ => none | d => some d
/-- how a list is made by a builtin: list(x) -/
def primD (p : Pm) (ds : List D) : Option D := match p, ds with
  | .len, [.str x] => if decide (x.length ≤ line) then some (.int (x.length : Int)) else none
  | .len, [.lst xs] => some (.int (xs.length : Int))
  | .len, [.tup xs] => some (.int (xs.length : Int))
  | .len, [.own xs] => some (.int (xs.length : Int))
  | .abs, [.int i] => some (.int (if i < 0 then -i else i))
  | .int, [.int i] => some (.int i)
  | .int, [.bl b] => some (.int (if b then 1 else 0))
  | .tuple, [.lst xs] => some (.tup xs)
  | .tuple, [.own xs] => some (.tup xs)
  | .tuple, [.tup xs] => some (.tup xs)
  | .isInt, [.int _] => some (.bl true) | .isInt, [.bl _] => some (.bl true) | .isInt, [.non] => some (.bl false) | .isInt, [.str _] => some (.bl false)
  | .isInt, [.tup _] => some (.bl false) | .isInt, [.lst _] => some (.bl false)
  | .isBool, [.int _] => some (.bl false) | .isBool, [.bl _] => some (.bl true) | .isBool, [.non] => some (.bl false) | .isBool, [.str _] => some (.bl false)
  | .isBool, [.tup _] => some (.bl false) | .isBool, [.lst _] => some (.bl false)
  | .isTuple, [.int _] => some (.bl false) | .isTuple, [.bl _] => some (.bl false) | .isTuple, [.non] => some (.bl false) | .isTuple, [.str _] => some (.bl false)
  | .isTuple, [.tup _] => some (.bl true) | .isTuple, [.lst _] => some (.bl false)
  | .isList, [.int _] => some (.bl false) | .isList, [.bl _] => some (.bl false) | .isList, [.non] => some (.bl false) | .isList, [.str _] => some (.bl false)
  | .isList, [.tup _] => some (.bl false) | .isList, [.lst _] => some (.bl true)
  | .isStr, [.int _] => some (.bl false) | .isStr, [.bl _] => some (.bl false) | .isStr, [.non] => some (.bl false) | .isStr, [.str _] => some (.bl true)
  | .isStr, [.tup _] => some (.bl false) | .isStr, [.lst _] => some (.bl false)
  | _, _ => none
def setTg : List Nat → D → Rho → Option Rho
  | [j], d, ρ => some (ρ.set j (.val d))
  | js, .tup ds, ρ => if decide (ds.length = js.length) then some ((js.zip ds).foldl (fun r p => r.set p.1 (.val p.2)) ρ) else none
  | _, _, _ => none
def wipeR (ρ : Rho) (own : List Nat) : Rho := own.foldr (fun j r => r.set j .non) ρ
def compM (f : D → Option (Option D)) : List D → Option (List D)
  | [] => some []
  | d :: ds => match f d with
    | none => none
    | some o => match compM f ds with
      | none => none
      | some es => some (match o with | some e => e :: es | none => es)
def rng (lo hi : Int) : List D := (List.range (hi - lo).toNat).map fun (i : Nat) => .int (lo + (i : Int))
def okRng (i : Int) : Bool := decide (-(2 ^ 62) ≤ i) && decide (i < 2 ^ 62)
def forM (f : D → Rho → Option Fl) : List D → Rho → Option Fl
  | [], ρ => some (.nx ρ)
  | d :: ds, ρ => match f d ρ with
    | some (.nx ρ') => forM f ds ρ'
    | some (.ct ρ') => forM f ds ρ'
    | some (.bk ρ') => some (.nx ρ')
    | some (.rt d) => some (.rt d)
    | none => none
def whileM (t : Rho → Option Bool) (f : Rho → Option Fl) : Nat → Rho → Option Fl
  | 0, _ => none
  | n + 1, ρ => match t ρ with
    | none => none
    | some false => some (.nx ρ)
    | some true => match f ρ with
      | some (.nx ρ') => whileM t f n ρ'
      | some (.ct ρ') => whileM t f n ρ'
      | some (.bk ρ') => some (.nx ρ')
      | some (.rt d) => some (.rt d)
      | none => none

section
variable (Φ : Nat → List D → Option D)
mutual
def evE : E → Rho → Option D
  | .slot i, ρ => match ρ[i]? with
    | some (.val d) => some d
    | some (.mls ds) => some (.own ds)
    | _ => none
  | .cint i, _ => some (.int i)
  | .cbl b, _ => some (.bl b)
  | .cnon, _ => some .non
  | .cstr x, _ => some (.str x)
  | .bin op a b, ρ => match evE a ρ, evE b ρ with
    | some x, some y => (match op, catD x y with
      | .add, some ds => some (.lst ds)
      | op, _ => binD op x y)
    | _, _ => none
  | .neg a, ρ => match evE a ρ with | some (.int i) => some (.int (-i)) | _ => none
  | .cmp op a b, ρ => match evE a ρ, evE b ρ with
    | some x, some y => (cmpD op x y).map .bl
    | _, _ => none
  | .andV es, ρ => evAnd es ρ
  | .orV es, ρ => evOr es ρ
  | .notV a, ρ => match evE a ρ with | some (.bl b) => some (.bl !b) | _ => none
  | .ite t a b, ρ => match evT t ρ with | some true => (evE a ρ).bind pure? | some false => (evE b ρ).bind pure? | none => none
  | .tup es, ρ => match evEs es ρ with | some ds => if decide (ds.length ≤ line) then some (.tup ds) else none | none => none
  | .lst es, ρ => match evEs es ρ with | some ds => if decide (ds.length ≤ line) then some (.lst ds) else none | none => none
  | .idx a b, ρ => match evE a ρ, evE b ρ with | some x, some y => ixD x y | _, _ => none
  | .slc a lo hi, ρ => match evE a ρ, evO lo ρ, evO hi ρ with
    | some (.lst ds), some l, some h => some (.lst (cutD ds l h))
    | some (.own ds), some l, some h => some (.lst (cutD ds l h))
    | _, _, _ => none
  | .call f es dv, ρ => match evEs es ρ with | some ds => Φ f (ds ++ dv.map .int) | none => none
  | .prim p es, ρ => match evPs es ρ with
    | some ds => (match p, ds with
      | .list, [d] => (match lst? d with | some xs => some (.lst xs) | none => none)
      | p, ds => primD p ds)
    | none => none
  | .comp elt tg it ts own, ρ => match evIt it ρ with
    | some ds => (match compM (fun d => match setTg tg d (wipeR ρ own) with
        | some ρ' => (match evTs ts ρ' with
          | some true => (match (evE elt ρ').bind pure? with | some e => some (some e) | none => none)
          | some false => some none
          | none => none)
        | none => none) ds with
      | some es => if decide (es.length ≤ line) then some (.lst es) else none
      | none => none)
    | none => none
  | .dget i k, ρ => match ρ[i]?, evE k ρ with
    | some (.mdc kvs), some d => (match keyT d with | some kk => getK kvs kk | none => none)
    | _, _ => none
  | .rev a, ρ => match evE a ρ with | some (.lst ds) => some (.lst ds.reverse) | _ => none
/-- arguments, items of displays: no owned list is let out -/
def evEs : Es → Rho → Option (List D)
  | .nil, _ => some []
  | .cons e es, ρ => match (evE e ρ).bind pure?, evEs es ρ with | some d, some ds => some (d :: ds) | _, _ => none
/-- arguments of builtins, that look at a list only -/
def evPs : Es → Rho → Option (List D)
  | .nil, _ => some []
  | .cons e es, ρ => match evE e ρ, evPs es ρ with | some d, some ds => some (d :: ds) | _, _ => none
def evAnd : Es → Rho → Option D
  | .nil, _ => none
  | .cons e .nil, ρ => (evE e ρ).bind pure?
  | .cons e es, ρ => match evE e ρ with | some (.bl true) => evAnd es ρ | some (.bl false) => some (.bl false) | _ => none
def evOr : Es → Rho → Option D
  | .nil, _ => none
  | .cons e .nil, ρ => (evE e ρ).bind pure?
  | .cons e es, ρ => match evE e ρ with | some (.bl false) => evOr es ρ | some (.bl true) => some (.bl true) | _ => none
def evO : O → Rho → Option (Option Int)
  | .none, _ => some none
  | .some e, ρ => match evE e ρ with | some (.int i) => some (some i) | _ => none
def evT : T → Rho → Option Bool
  | .tru e, ρ => match evE e ρ with | some d => truD d | none => none
  | .cmp op a b, ρ => match evE a ρ, evE b ρ with | some x, some y => cmpD op x y | _, _ => none
  | .chain op op' a b c, ρ => match evE a ρ, evE b ρ with
    | some x, some y => (match isOwn x || isOwn y, cmpD op x y with
      | false, some true => (match evE c ρ with | some z => cmpD op' y z | none => none)
      | false, some false => some false
      | _, _ => none)
    | _, _ => none
  | .and ts, ρ => evAll ts ρ
  | .or ts, ρ => evAny ts ρ
  | .not t, ρ => (evT t ρ).map (!·)
def evAll : Ts → Rho → Option Bool
  | .nil, _ => some true
  | .cons t ts, ρ => match evT t ρ with | some true => evAll ts ρ | some false => some false | none => none
def evAny : Ts → Rho → Option Bool
  | .nil, _ => some false
  | .cons t ts, ρ => match evT t ρ with | some false => evAny ts ρ | some true => some true | none => none
/-- the tests of a clause: one at most -/
def evTs : Ts → Rho → Option Bool
  | .nil, _ => some true
  | .cons t _, ρ => evT t ρ
def evIt : It → Rho → Option (List D)
  | .rng1 a, ρ => match evE a ρ with | some (.int j) => if okRng j then some (rng 0 j) else none | _ => none
  | .rng2 a b, ρ => match evE a ρ, evE b ρ with | some (.int i), some (.int j) => if okRng i && okRng j then some (rng i j) else none | _, _ => none
  | .seq e, ρ => match evE e ρ with | some d => lst? d | none => none
end
/-- forms whose value is a new list -/
def fresh : E → Bool
  | .lst _ | .comp .. | .slc .. | .bin .add _ _ | .prim .list _ => true
  | _ => false
/-- what a for walks: no list of the def's own -/
def evItF (it : It) (ρ : Rho) : Option (List D) := match it with
  | .seq e => (match (evE Φ e ρ).bind pure? with | some d => lst? d | none => none)
  | it => evIt Φ it ρ
variable (wf : Nat)
mutual
def evS : S → Rho → Option Fl
  | .set i e, ρ => match (evE Φ e ρ).bind pure? with | some d => some (.nx (ρ.set i (.val d))) | none => none
  | .setM i e, ρ => if fresh e then (match evE Φ e ρ with | some (.lst ds) => some (.nx (ρ.set i (.mls ds))) | _ => none) else none
  | .unp is e, ρ => match evE Φ e ρ with | some d => (match is with | _ :: _ :: _ => (setTg is d ρ).map .nx | _ => none) | none => none
  | .par i j a b, ρ => match (evE Φ a ρ).bind pure?, (evE Φ b ρ).bind pure? with
    | some x, some y => some (.nx ((ρ.set i (.val x)).set j (.val y)))
    | _, _ => none
  | .aug i op e, ρ => match ρ[i]?, evE Φ e ρ with
    | some (.val (.int x)), some (.int y) => (match op with
      | .add => some (.nx (ρ.set i (.val (.int (x + y)))))
      | .sub => some (.nx (ρ.set i (.val (.int (x - y)))))
      | _ => none)
    | _, _ => none
  | .app i e, ρ => match ρ[i]?, (evE Φ e ρ).bind pure? with
    | some (.mls ds), some d => if decide (ds.length < line) then some (.nx (ρ.set i (.mls (ds ++ [d])))) else none
    | _, _ => none
  | .setIx i j e, ρ => match ρ[i]?, evE Φ j ρ, (evE Φ e ρ).bind pure? with
    | some (.mls ds), some (.int k), some d => (match ixN ds.length k with | some n => some (.nx (ρ.set i (.mls (ds.set n d)))) | none => none)
    | _, _, _ => none
  | .ins i j e, ρ => match ρ[i]?, evE Φ j ρ, (evE Φ e ρ).bind pure? with
    | some (.mls ds), some (.int k), some d => if decide (0 ≤ k) && decide (k ≤ (ds.length : Int)) && decide (ds.length < line) then some (.nx (ρ.set i (.mls (ds.take k.toNat ++ d :: ds.drop k.toNat)))) else none
    | _, _, _ => none
  | .popTo k i j, ρ => match ρ[i]?, evE Φ j ρ with
    | some (.mls ds), some (.int x) => if okRng x then (match ixN ds.length x with
      | some n => (match ds[n]? with | some d => some (.nx ((ρ.set i (.mls (ds.eraseIdx n))).set k (.val d))) | none => none)
      | none => none) else none
    | _, _ => none
  | .popE i, ρ => match ρ[i]? with
    | some (.mls ds) => if ds.isEmpty then none else some (.nx (ρ.set i (.mls ds.dropLast)))
    | _ => none
  | .ifS t a b, ρ => match evT Φ t ρ with | some true => evSs a ρ | some false => evSs b ρ | none => none
  | .forS tg it body, ρ => match evItF Φ it ρ with
    | some ds => forM (fun d ρ => match setTg tg d ρ with | some ρ' => evSs body ρ' | none => none) ds ρ
    | none => none
  | .whileS t body, ρ => whileM (evT Φ t) (evSs body) wf ρ
  | .ret e, ρ => match (evE Φ e ρ).bind pure? with | some d => some (.rt d) | none => none
  | .brk, ρ => some (.bk ρ)
  | .cont, ρ => some (.ct ρ)
  | .pass, ρ => some (.nx ρ)
  | .frz i, ρ => match ρ[i]? with | some (.mls ds) => some (.nx (ρ.set i (.val (.lst ds)))) | _ => none
  | .bad, _ => none
  | .dnew i, ρ => some (.nx (ρ.set i (.mdc [])))
  | .dset i k e, ρ => match ρ[i]?, evE Φ k ρ, (evE Φ e ρ).bind pure? with
    | some (.mdc kvs), some d, some v => (match keyT d with | some kk => if decide (kvs.length < line) then some (.nx (ρ.set i (.mdc (setK kvs kk v)))) else none | none => none)
    | _, _, _ => none
def evSs : Ss → Rho → Option Fl
  | .nil, ρ => some (.nx ρ)
  | .cons s ss, ρ => match evS s ρ with
    | some (.nx ρ') => evSs ss ρ'
    | r => r
end
end

/-- a def: parameters, slots, body -/
structure Fd where
  np : Nat
  ns : Nat
  body : Ss
def start0 (fd : Fd) (ds : List D) : Rho := ds.map .val ++ List.replicate (fd.ns - fd.np) .non
def run (tab : List Fd) (wf : Nat) : Nat → Nat → List D → Option D
  | 0, _, _ => none
  | n + 1, f, ds => match tab[f]? with
    | some fd => if decide (ds.length = fd.np) then (match evSs (run tab wf n) wf fd.body (start0 fd ds) with
      | some (.rt d) => some d
      | some (.nx _) => some .non
      | _ => none) else none
    | none => none
end MP

/-! MiniPy: the evaluator, for plain proofs. -/
namespace MP
open PySem L2
def bodyD (Φ : Nat → List D → Option D) (wf : Nat) (fd : Fd) (ds : List D) : Option D :=
  if decide (ds.length = fd.np) then (match evSs Φ wf fd.body (start0 fd ds) with
      | some (.rt d) => some d
      | some (.nx _) => some .non
      | _ => none) else none
theorem run_eq {tab : List Fd} {wf n f : Nat} {fd : Fd} (h : tab[f]? = some fd) : run tab wf (n + 1) f = bodyD (run tab wf n) wf fd := by
  funext ds
  show (match tab[f]? with | some fd => _ | none => none) = _
  rw [h]
  rfl
section
variable {Φ : Nat → List D → Option D} {wf : Nat} {ρ : Rho}
/-- a value that may be let out -/
@[simp] theorem pure_int (i : Int) : pure? (.int i) = some (.int i) := id rfl
@[simp] theorem pure_bl (b : Bool) : pure? (.bl b) = some (.bl b) := id rfl
@[simp] theorem pure_non : pure? .non = some .non := id rfl
@[simp] theorem pure_str (x : Str) : pure? (.str x) = some (.str x) := id rfl
@[simp] theorem pure_tup (ds : List D) : pure? (.tup ds) = some (.tup ds) := id rfl
@[simp] theorem pure_lst (ds : List D) : pure? (.lst ds) = some (.lst ds) := id rfl
@[simp] theorem ev_slot (i : Nat) : evE Φ (.slot i) ρ = (match ρ[i]? with | some (.val d) => some d | some (.mls ds) => some (.own ds) | _ => none) := id rfl
@[simp] theorem ev_cint (i : Int) : evE Φ (.cint i) ρ = some (.int i) := id rfl
@[simp] theorem ev_cbl (b : Bool) : evE Φ (.cbl b) ρ = some (.bl b) := id rfl
@[simp] theorem ev_cnon : evE Φ .cnon ρ = some .non := id rfl
@[simp] theorem ev_cstr (x : Str) : evE Φ (.cstr x) ρ = some (.str x) := id rfl
@[simp] theorem ev_bin (op : BOp) (a b : E) : evE Φ (.bin op a b) ρ = (match evE Φ a ρ, evE Φ b ρ with
    | some x, some y => (match op, catD x y with
      | .add, some ds => some (.lst ds)
      | op, _ => binD op x y)
    | _, _ => none) := id rfl
@[simp] theorem ev_neg (a : E) : evE Φ (.neg a) ρ = (match evE Φ a ρ with | some (.int i) => some (.int (-i)) | _ => none) := id rfl
@[simp] theorem ev_cmp (op : COp) (a b : E) : evE Φ (.cmp op a b) ρ = (match evE Φ a ρ, evE Φ b ρ with | some x, some y => (cmpD op x y).map .bl | _, _ => none) := id rfl
@[simp] theorem ev_andV (es : Es) : evE Φ (.andV es) ρ = evAnd Φ es ρ := id rfl
@[simp] theorem ev_orV (es : Es) : evE Φ (.orV es) ρ = evOr Φ es ρ := id rfl
@[simp] theorem ev_notV (a : E) : evE Φ (.notV a) ρ = (match evE Φ a ρ with | some (.bl b) => some (.bl !b) | _ => none) := id rfl
@[simp] theorem ev_ite (t : T) (a b : E) : evE Φ (.ite t a b) ρ = (match evT Φ t ρ with | some true => (evE Φ a ρ).bind pure? | some false => (evE Φ b ρ).bind pure? | none => none) := id rfl
@[simp] theorem ev_tup (es : Es) : evE Φ (.tup es) ρ = (match evEs Φ es ρ with | some ds => if decide (ds.length ≤ line) then some (.tup ds) else none | none => none) := id rfl
@[simp] theorem ev_lst (es : Es) : evE Φ (.lst es) ρ = (match evEs Φ es ρ with | some ds => if decide (ds.length ≤ line) then some (.lst ds) else none | none => none) := id rfl
@[simp] theorem ev_idx (a b : E) : evE Φ (.idx a b) ρ = (match evE Φ a ρ, evE Φ b ρ with | some x, some y => ixD x y | _, _ => none) := id rfl
@[simp] theorem ev_slc (a : E) (lo hi : O) : evE Φ (.slc a lo hi) ρ = (match evE Φ a ρ, evO Φ lo ρ, evO Φ hi ρ with
    | some (.lst ds), some l, some h => some (.lst (cutD ds l h))
    | some (.own ds), some l, some h => some (.lst (cutD ds l h))
    | _, _, _ => none) := id rfl
@[simp] theorem ev_call (f : Nat) (es : Es) (dv : List Int) : evE Φ (.call f es dv) ρ = (match evEs Φ es ρ with | some ds => Φ f (ds ++ dv.map .int) | none => none) := id rfl
@[simp] theorem ev_prim (p : Pm) (es : Es) : evE Φ (.prim p es) ρ = (match evPs Φ es ρ with
    | some ds => (match p, ds with
      | .list, [d] => (match lst? d with | some xs => some (.lst xs) | none => none)
      | p, ds => primD p ds)
    | none => none) := id rfl
/-- one turn of a comprehension's block -/
def stepC (Φ : Nat → List D → Option D) (elt : E) (tg : List Nat) (ts : Ts) (own : List Nat) (ρ : Rho) (d : D) : Option (Option D) := match setTg tg d (wipeR ρ own) with
  | some ρ' => (match evTs Φ ts ρ' with
    | some true => (match (evE Φ elt ρ').bind pure? with | some e => some (some e) | none => none)
    | some false => some none
    | none => none)
  | none => none
theorem ev_comp (elt : E) (tg : List Nat) (it : It) (ts : Ts) (own : List Nat) : evE Φ (.comp elt tg it ts own) ρ = (match evIt Φ it ρ with
    | some ds => (match compM (stepC Φ elt tg ts own ρ) ds with
      | some es => if decide (es.length ≤ line) then some (.lst es) else none
      | none => none)
    | none => none) := id rfl
@[simp] theorem ev_dget (i : Nat) (k : E) : evE Φ (.dget i k) ρ = (match ρ[i]?, evE Φ k ρ with
    | some (.mdc kvs), some d => (match keyT d with | some kk => getK kvs kk | none => none)
    | _, _ => none) := id rfl
@[simp] theorem ev_rev (a : E) : evE Φ (.rev a) ρ = (match evE Φ a ρ with | some (.lst ds) => some (.lst ds.reverse) | _ => none) := id rfl
@[simp] theorem evEs_nil : evEs Φ .nil ρ = some [] := id rfl
@[simp] theorem evEs_cons (e : E) (es : Es) : evEs Φ (.cons e es) ρ = (match (evE Φ e ρ).bind pure?, evEs Φ es ρ with | some d, some ds => some (d :: ds) | _, _ => none) := id rfl
@[simp] theorem evPs_nil : evPs Φ .nil ρ = some [] := id rfl
@[simp] theorem evPs_cons (e : E) (es : Es) : evPs Φ (.cons e es) ρ = (match evE Φ e ρ, evPs Φ es ρ with | some d, some ds => some (d :: ds) | _, _ => none) := id rfl
@[simp] theorem evAnd_one (e : E) : evAnd Φ (.cons e .nil) ρ = (evE Φ e ρ).bind pure? := id rfl
@[simp] theorem evAnd_cons (e e' : E) (es : Es) : evAnd Φ (.cons e (.cons e' es)) ρ = (match evE Φ e ρ with | some (.bl true) => evAnd Φ (.cons e' es) ρ | some (.bl false) => some (.bl false) | _ => none) := id rfl
@[simp] theorem evOr_one (e : E) : evOr Φ (.cons e .nil) ρ = (evE Φ e ρ).bind pure? := id rfl
@[simp] theorem evOr_cons (e e' : E) (es : Es) : evOr Φ (.cons e (.cons e' es)) ρ = (match evE Φ e ρ with | some (.bl false) => evOr Φ (.cons e' es) ρ | some (.bl true) => some (.bl true) | _ => none) := id rfl
@[simp] theorem evO_none : evO Φ .none ρ = some none := id rfl
@[simp] theorem evO_some (e : E) : evO Φ (.some e) ρ = (match evE Φ e ρ with | some (.int i) => some (some i) | _ => none) := id rfl
@[simp] theorem evT_tru (e : E) : evT Φ (.tru e) ρ = (match evE Φ e ρ with | some d => truD d | none => none) := id rfl
@[simp] theorem evT_cmp (op : COp) (a b : E) : evT Φ (.cmp op a b) ρ = (match evE Φ a ρ, evE Φ b ρ with | some x, some y => cmpD op x y | _, _ => none) := id rfl
@[simp] theorem evT_chain (op op' : COp) (a b c : E) : evT Φ (.chain op op' a b c) ρ = (match evE Φ a ρ, evE Φ b ρ with
    | some x, some y => (match isOwn x || isOwn y, cmpD op x y with
      | false, some true => (match evE Φ c ρ with | some z => cmpD op' y z | none => none)
      | false, some false => some false
      | _, _ => none)
    | _, _ => none) := id rfl
@[simp] theorem evT_and (ts : Ts) : evT Φ (.and ts) ρ = evAll Φ ts ρ := id rfl
@[simp] theorem evT_or (ts : Ts) : evT Φ (.or ts) ρ = evAny Φ ts ρ := id rfl
@[simp] theorem evT_not (t : T) : evT Φ (.not t) ρ = (evT Φ t ρ).map (!·) := id rfl
@[simp] theorem evAll_nil : evAll Φ .nil ρ = some true := id rfl
@[simp] theorem evAll_cons (t : T) (ts : Ts) : evAll Φ (.cons t ts) ρ = (match evT Φ t ρ with | some true => evAll Φ ts ρ | some false => some false | none => none) := id rfl
@[simp] theorem evAny_nil : evAny Φ .nil ρ = some false := id rfl
@[simp] theorem evAny_cons (t : T) (ts : Ts) : evAny Φ (.cons t ts) ρ = (match evT Φ t ρ with | some false => evAny Φ ts ρ | some true => some true | none => none) := id rfl
@[simp] theorem evTs_nil : evTs Φ .nil ρ = some true := id rfl
@[simp] theorem evTs_cons (t : T) (ts : Ts) : evTs Φ (.cons t ts) ρ = evT Φ t ρ := id rfl
@[simp] theorem evIt_rng1 (a : E) : evIt Φ (.rng1 a) ρ = (match evE Φ a ρ with | some (.int j) => if okRng j then some (rng 0 j) else none | _ => none) := id rfl
@[simp] theorem evIt_rng2 (a b : E) : evIt Φ (.rng2 a b) ρ = (match evE Φ a ρ, evE Φ b ρ with | some (.int i), some (.int j) => if okRng i && okRng j then some (rng i j) else none | _, _ => none) := id rfl
@[simp] theorem evIt_seq (e : E) : evIt Φ (.seq e) ρ = (match evE Φ e ρ with | some d => lst? d | none => none) := id rfl
@[simp] theorem evItF_rng1 (a : E) : evItF Φ (.rng1 a) ρ = (match evE Φ a ρ with | some (.int j) => if okRng j then some (rng 0 j) else none | _ => none) := id rfl
@[simp] theorem evItF_rng2 (a b : E) : evItF Φ (.rng2 a b) ρ = (match evE Φ a ρ, evE Φ b ρ with | some (.int i), some (.int j) => if okRng i && okRng j then some (rng i j) else none | _, _ => none) := id rfl
@[simp] theorem evItF_seq (e : E) : evItF Φ (.seq e) ρ = (match (evE Φ e ρ).bind pure? with | some d => lst? d | none => none) := id rfl
/-! statements, but loops -/
@[simp] theorem evSs_nil : evSs Φ wf .nil ρ = some (.nx ρ) := id rfl
@[simp] theorem evSs_cons (s : S) (ss : Ss) : evSs Φ wf (.cons s ss) ρ = (match evS Φ wf s ρ with | some (.nx ρ') => evSs Φ wf ss ρ' | r => r) := id rfl
@[simp] theorem evS_set (i : Nat) (e : E) : evS Φ wf (.set i e) ρ = (match (evE Φ e ρ).bind pure? with | some d => some (.nx (ρ.set i (.val d))) | none => none) := id rfl
@[simp] theorem evS_setM (i : Nat) (e : E) : evS Φ wf (.setM i e) ρ = (if fresh e then (match evE Φ e ρ with | some (.lst ds) => some (.nx (ρ.set i (.mls ds))) | _ => none) else none) := id rfl
@[simp] theorem evS_unp (is : List Nat) (e : E) : evS Φ wf (.unp is e) ρ = (match evE Φ e ρ with | some d => (match is with | _ :: _ :: _ => (setTg is d ρ).map .nx | _ => none) | none => none) := id rfl
@[simp] theorem evS_par (i j : Nat) (a b : E) : evS Φ wf (.par i j a b) ρ = (match (evE Φ a ρ).bind pure?, (evE Φ b ρ).bind pure? with
    | some x, some y => some (.nx ((ρ.set i (.val x)).set j (.val y)))
    | _, _ => none) := id rfl
@[simp] theorem evS_aug (i : Nat) (op : BOp) (e : E) : evS Φ wf (.aug i op e) ρ = (match ρ[i]?, evE Φ e ρ with
    | some (.val (.int x)), some (.int y) => (match op with
      | .add => some (.nx (ρ.set i (.val (.int (x + y)))))
      | .sub => some (.nx (ρ.set i (.val (.int (x - y)))))
      | _ => none)
    | _, _ => none) := id rfl
@[simp] theorem evS_app (i : Nat) (e : E) : evS Φ wf (.app i e) ρ = (match ρ[i]?, (evE Φ e ρ).bind pure? with
    | some (.mls ds), some d => if decide (ds.length < line) then some (.nx (ρ.set i (.mls (ds ++ [d])))) else none
    | _, _ => none) := id rfl
@[simp] theorem evS_setIx (i : Nat) (j e : E) : evS Φ wf (.setIx i j e) ρ = (match ρ[i]?, evE Φ j ρ, (evE Φ e ρ).bind pure? with
    | some (.mls ds), some (.int k), some d => (match ixN ds.length k with | some n => some (.nx (ρ.set i (.mls (ds.set n d)))) | none => none)
    | _, _, _ => none) := id rfl
@[simp] theorem evS_ins (i : Nat) (j e : E) : evS Φ wf (.ins i j e) ρ = (match ρ[i]?, evE Φ j ρ, (evE Φ e ρ).bind pure? with
    | some (.mls ds), some (.int k), some d => if decide (0 ≤ k) && decide (k ≤ (ds.length : Int)) && decide (ds.length < line) then some (.nx (ρ.set i (.mls (ds.take k.toNat ++ d :: ds.drop k.toNat)))) else none
    | _, _, _ => none) := id rfl
@[simp] theorem evS_popTo (k i : Nat) (j : E) : evS Φ wf (.popTo k i j) ρ = (match ρ[i]?, evE Φ j ρ with
    | some (.mls ds), some (.int x) => if okRng x then (match ixN ds.length x with
      | some n => (match ds[n]? with | some d => some (.nx ((ρ.set i (.mls (ds.eraseIdx n))).set k (.val d))) | none => none)
      | none => none) else none
    | _, _ => none) := id rfl
@[simp] theorem evS_popE (i : Nat) : evS Φ wf (.popE i) ρ = (match ρ[i]? with
    | some (.mls ds) => if ds.isEmpty then none else some (.nx (ρ.set i (.mls ds.dropLast)))
    | _ => none) := id rfl
@[simp] theorem evS_if (t : T) (a b : Ss) : evS Φ wf (.ifS t a b) ρ = (match evT Φ t ρ with | some true => evSs Φ wf a ρ | some false => evSs Φ wf b ρ | none => none) := id rfl
theorem evS_for (tg : List Nat) (it : It) (body : Ss) : evS Φ wf (.forS tg it body) ρ = (match evItF Φ it ρ with
    | some ds => forM (fun d ρ => match setTg tg d ρ with | some ρ' => evSs Φ wf body ρ' | none => none) ds ρ
    | none => none) := id rfl
theorem evS_while (t : T) (body : Ss) : evS Φ wf (.whileS t body) ρ = whileM (evT Φ t) (evSs Φ wf body) wf ρ := id rfl
@[simp] theorem evS_ret (e : E) : evS Φ wf (.ret e) ρ = (match (evE Φ e ρ).bind pure? with | some d => some (.rt d) | none => none) := id rfl
@[simp] theorem evS_brk : evS Φ wf .brk ρ = some (.bk ρ) := id rfl
@[simp] theorem evS_cont : evS Φ wf .cont ρ = some (.ct ρ) := id rfl
@[simp] theorem evS_pass : evS Φ wf .pass ρ = some (.nx ρ) := id rfl
@[simp] theorem evS_frz (i : Nat) : evS Φ wf (.frz i) ρ = (match ρ[i]? with | some (.mls ds) => some (.nx (ρ.set i (.val (.lst ds)))) | _ => none) := id rfl
@[simp] theorem evS_dnew (i : Nat) : evS Φ wf (.dnew i) ρ = some (.nx (ρ.set i (.mdc []))) := id rfl
@[simp] theorem evS_dset (i : Nat) (k e : E) : evS Φ wf (.dset i k e) ρ = (match ρ[i]?, evE Φ k ρ, (evE Φ e ρ).bind pure? with
    | some (.mdc kvs), some d, some v => (match keyT d with | some kk => if decide (kvs.length < line) then some (.nx (ρ.set i (.mdc (setK kvs kk v)))) else none | none => none)
    | _, _, _ => none) := id rfl
end
@[simp] theorem setTg_name (j : Nat) (d : D) (ρ : Rho) : setTg [j] d ρ = some (ρ.set j (.val d)) := id rfl
@[simp] theorem wipeR_one (ρ : Rho) (j : Nat) : wipeR ρ [j] = ρ.set j .non := id rfl
@[simp] theorem cat_int (i : Int) (y : D) : catD (.int i) y = none := id rfl
@[simp] theorem cat_tup (xs : List D) (y : D) : catD (.tup xs) y = none := id rfl
@[simp] theorem cat_str (x : Str) (y : D) : catD (.str x) y = none := id rfl
@[simp] theorem bin_add (i j : Int) : binD .add (.int i) (.int j) = some (.int (i + j)) := id rfl
@[simp] theorem bin_sub (i j : Int) : binD .sub (.int i) (.int j) = some (.int (i - j)) := id rfl
theorem bin_mul {i j : Int} (h : mulOk i j = true) : binD .mul (.int i) (.int j) = some (.int (i * j)) := by simp [binD, h]
theorem bin_mod {i j : Int} (h : j ≠ 0) : binD .mod (.int i) (.int j) = some (.int (i.fmod j)) := by simp [binD, h]
theorem bin_fdiv {i j : Int} (h : j ≠ 0) (h2 : j.natAbs.log2 < 9000) : binD .fdiv (.int i) (.int j) = some (.int (i.fdiv j)) := by simp [binD, h, h2]
@[simp] theorem cmp_lt (i j : Int) : cmpD .lt (.int i) (.int j) = some (decide (i < j)) := id rfl
@[simp] theorem cmp_le (i j : Int) : cmpD .le (.int i) (.int j) = some (decide (i ≤ j)) := id rfl
@[simp] theorem cmp_gt (i j : Int) : cmpD .gt (.int i) (.int j) = some (decide (j < i)) := id rfl
@[simp] theorem cmp_ge (i j : Int) : cmpD .ge (.int i) (.int j) = some (decide (j ≤ i)) := id rfl
theorem eq_int (i j : Int) : eqD (.int i) (.int j) = some (decide (i = j)) := by
  simp [eqD, seen, toPy, SeqAt.shaped, PyData.canLay0, PyData.depth, PyData.eqv, Bool.beq_eq_decide_eq]
@[simp] theorem cmp_eqI (i j : Int) : cmpD .eq (.int i) (.int j) = some (decide (i = j)) := eq_int i j
@[simp] theorem cmp_neI (i j : Int) : cmpD .ne (.int i) (.int j) = some (!decide (i = j)) := by
  simp [cmpD, eq_int]
theorem ix_lst {ds : List D} {i : Nat} {d : D} (h : ds[i]? = some d) : ixD (.lst ds) (.int (i : Int)) = some d := atI_nat h
theorem ix_own {ds : List D} {i : Nat} {d : D} (h : ds[i]? = some d) : ixD (.own ds) (.int (i : Int)) = some d := atI_nat h
theorem ix_tup' {ds : List D} {i : Nat} {d : D} (h : ds[i]? = some d) : ixD (.tup ds) (.int (i : Int)) = some d := atI_nat h
@[simp] theorem ix_t0 (d : D) (ds : List D) : ixD (.tup (d :: ds)) (.int 0) = some d := ix_tup' (i := 0) rfl
@[simp] theorem ix_t1 (c d : D) (ds : List D) : ixD (.tup (c :: d :: ds)) (.int 1) = some d := ix_tup' (i := 1) rfl
@[simp] theorem ix_t2 (b c d : D) (ds : List D) : ixD (.tup (b :: c :: d :: ds)) (.int 2) = some d := ix_tup' (i := 2) rfl
end MP

/-! MiniPy: what data stand for in the abstract heap. -/
namespace MP
open PySem PySem.Spec PyProof.Rows L2

/-- the ghost: what never changes (F), objects with a cache (B) -/
structure Gh where
  F : Hp
  B : Addr → Option (Nat × D)
structure Gh.le (g g' : Gh) : Prop where
  f : ∀ a o, g.F a = some o → g'.F a = some o
  b : ∀ a c, g.B a = some c → g'.B a = some c
theorem Gh.le.refl (g : Gh) : g.le g := ⟨fun _ _ h => h, fun _ _ h => h⟩
theorem Gh.le.trans {g g1 g2 : Gh} (a : g.le g1) (b : g1.le g2) : g.le g2 := ⟨fun x o h => b.f x o (a.f x o h), fun x o h => b.b x o (a.b x o h)⟩

section
variable (K : PySem.W.Frag) (g : Gh)
mutual
inductive Rep : V → D → Prop
  | non : Rep .non .non
  | bl (b : Bool) : Rep (.bl b) (.bl b)
  | int (i : Int) : Rep (.int i) (.int i)
  | str (x : Str) : Rep (.str x) (.str x)
  | lst {a : Addr} {xs : List V} {ds : List D} : SqL K g.F a xs → RepL xs ds → Rep (.ref a) (.lst ds)
  | tup {a : Addr} {xs : List V} {ds : List D} : SqT K g.F a xs → RepL xs ds → Rep (.ref a) (.tup ds)
  | obj {a : Addr} {t : Nat} {d : D} : g.B a = some (t, d) → Rep (.ref a) (.obj t d)
inductive RepL : List V → List D → Prop
  | nil : RepL [] []
  | cons {v : V} {vs : List V} {d : D} {ds : List D} : Rep v d → RepL vs ds → RepL (v :: vs) (d :: ds)
end
end

theorem sql_le {K : PySem.W.Frag} {F F' : Hp} {a : Addr} {xs : List V} (e : ∀ a o, F a = some o → F' a = some o) (h : SqL K F a xs) : SqL K F' a xs := by
  rcases h with (h | ⟨o, h⟩) | h
  · exact .inl (.inl (e _ _ h))
  · exact .inl (.inr ⟨o, e _ _ h⟩)
  · exact .inr h
theorem rd_le {F F' : Hp} {a : Addr} {u : HO} (e : ∀ a o, F a = some o → F' a = some o) (h : Rd F a u) : Rd F' a u := by
  rcases h with h | ⟨o, h⟩
  · exact .inl (e _ _ h)
  · exact .inr ⟨o, e _ _ h⟩
theorem sqt_le {K : PySem.W.Frag} {F F' : Hp} {a : Addr} {xs : List V} (e : ∀ a o, F a = some o → F' a = some o) (h : SqT K F a xs) : SqT K F' a xs := by
  rcases h with (h | ⟨o, h⟩) | h
  · exact .inl (.inl (e _ _ h))
  · exact .inl (.inr ⟨o, e _ _ h⟩)
  · exact .inr h

section
variable {K : PySem.W.Frag} {g g' : Gh}
mutual
theorem Rep.mono (e : g.le g') : ∀ (d : D) (v : V), Rep K g v d → Rep K g' v d
  | .non, _, h => by cases h; exact .non
  | .bl b, _, h => by cases h; exact .bl b
  | .int i, _, h => by cases h; exact .int i
  | .str x, _, h => by cases h; exact .str x
  | .lst ds, _, h => by
    cases h with
    | lst hs hl => exact .lst (sql_le e.f hs) (RepL.mono e ds _ hl)
  | .tup ds, _, h => by
    cases h with
    | tup hs hl => exact .tup (sqt_le e.f hs) (RepL.mono e ds _ hl)
  | .own ds, _, h => by cases h
  | .obj t d, _, h => by
    cases h with
    | obj hb => exact .obj (e.b _ _ hb)
theorem RepL.mono (e : g.le g') : ∀ (ds : List D) (vs : List V), RepL K g vs ds → RepL K g' vs ds
  | [], _, h => by cases h; exact .nil
  | d :: ds, _, h => by
    cases h with
    | cons h1 h2 => exact .cons (Rep.mono e d _ h1) (RepL.mono e ds _ h2)
end
theorem RepL.len {vs : List V} {ds : List D} (h : RepL K g vs ds) : vs.length = ds.length := by
  induction ds generalizing vs with
  | nil => cases h; rfl
  | cons d ds ih =>
    cases h with
    | cons h1 h2 => simp [ih h2]
theorem RepL.get {vs : List V} {ds : List D} (h : RepL K g vs ds) {i : Nat} {d : D} (e : ds[i]? = some d) : ∃ v, vs[i]? = some v ∧ Rep K g v d := by
  induction ds generalizing vs i with
  | nil => simp at e
  | cons d' ds ih =>
    cases h with
    | cons h1 h2 =>
      cases i with
      | zero =>
        simp at e
        subst e
        exact ⟨_, rfl, h1⟩
      | succ i =>
        simp at e
        obtain ⟨v, hv, r⟩ := ih h2 e
        exact ⟨v, by simpa using hv, r⟩
theorem RepL.getV {vs : List V} {ds : List D} (h : RepL K g vs ds) {i : Nat} {v : V} (e : vs[i]? = some v) : ∃ d, ds[i]? = some d ∧ Rep K g v d := by
  induction ds generalizing vs i with
  | nil => cases h; simp at e
  | cons d' ds ih =>
    cases h with
    | cons h1 h2 =>
      cases i with
      | zero =>
        simp at e
        subst e
        exact ⟨_, rfl, h1⟩
      | succ i =>
        simp at e
        obtain ⟨d, hd, r⟩ := ih h2 e
        exact ⟨d, by simpa using hd, r⟩
theorem RepL.append {xs ys : List V} {ds es : List D} (h : RepL K g xs ds) (h' : RepL K g ys es) : RepL K g (xs ++ ys) (ds ++ es) := by
  induction ds generalizing xs with
  | nil => cases h; exact h'
  | cons d ds ih =>
    cases h with
    | cons h1 h2 => exact .cons h1 (ih h2)
theorem RepL.reverse {xs : List V} {ds : List D} (h : RepL K g xs ds) : RepL K g xs.reverse ds.reverse := by
  induction ds generalizing xs with
  | nil => cases h; exact .nil
  | cons d ds ih =>
    cases h with
    | cons h1 h2 =>
      rw [List.reverse_cons, List.reverse_cons]
      exact (ih h2).append (.cons h1 .nil)
theorem RepL.take {xs : List V} {ds : List D} (n : Nat) (h : RepL K g xs ds) : RepL K g (xs.take n) (ds.take n) := by
  induction ds generalizing xs n with
  | nil => cases h; simp; exact .nil
  | cons d ds ih =>
    cases h with
    | cons h1 h2 =>
      cases n with
      | zero => exact .nil
      | succ n => exact .cons h1 (ih n h2)
theorem RepL.drop {xs : List V} {ds : List D} (n : Nat) (h : RepL K g xs ds) : RepL K g (xs.drop n) (ds.drop n) := by
  induction ds generalizing xs n with
  | nil => cases h; simp; exact .nil
  | cons d ds ih =>
    cases h with
    | cons h1 h2 =>
      cases n with
      | zero => exact .cons h1 h2
      | succ n => exact ih n h2
theorem RepL.set {xs : List V} {ds : List D} {v : V} {d : D} (n : Nat) (h : RepL K g xs ds) (r : Rep K g v d) : RepL K g (xs.set n v) (ds.set n d) := by
  induction ds generalizing xs n with
  | nil => cases h; simp; exact .nil
  | cons d' ds ih =>
    cases h with
    | cons h1 h2 =>
      cases n with
      | zero => exact .cons r h2
      | succ n => exact .cons h1 (ih n h2)
theorem RepL.eraseIdx {xs : List V} {ds : List D} (n : Nat) (h : RepL K g xs ds) : RepL K g (xs.eraseIdx n) (ds.eraseIdx n) := by
  induction ds generalizing xs n with
  | nil => cases h; simp; exact .nil
  | cons d' ds ih =>
    cases h with
    | cons h1 h2 =>
      cases n with
      | zero => exact h2
      | succ n => exact .cons h1 (ih n h2)
theorem RepL.dropLast {xs : List V} {ds : List D} (h : RepL K g xs ds) : RepL K g xs.dropLast ds.dropLast := by
  rw [List.dropLast_eq_take, List.dropLast_eq_take, h.len]
  exact h.take _
theorem RepL.ints : ∀ (ns : List Int), RepL K g (ns.map V.int) (ns.map D.int)
  | [] => .nil
  | n :: ns => .cons (.int n) (RepL.ints ns)
theorem RepL.cut {xs : List V} {ds : List D} (h : RepL K g xs ds) (lo hi : Option Int) : RepL K g (cutV xs lo hi) (cutD ds lo hi) := by
  unfold cutV cutD
  rw [h.len]
  exact (h.drop _).take _
theorem atI_rep {xs : List V} {ds : List D} (h : RepL K g xs ds) {i : Int} {d : D} (e : atI ds i = some d) : ∃ v, atI xs i = some v ∧ Rep K g v d := by
  unfold atI at e ⊢
  rw [h.len]
  cases q : ixN ds.length i with
  | none => rw [q] at e; cases e
  | some j =>
    rw [q] at e
    obtain ⟨v, hv, r⟩ := h.get e
    exact ⟨v, hv, r⟩
end

/-! ### the world -/
structure Ob where
  ok : Nat × D → Gh → HO → Prop
  mono : ∀ {c g g' o}, g.le g' → ok c g o → ok c g' o
structure WOk (ob : Ob) (g : Gh) (H : Hp) : Prop where
  f : ∀ a o, g.F a = some o → H a = some o
  b : ∀ a c, g.B a = some c → ∃ o, H a = some o ∧ ob.ok c g o
  fb : ∀ a o, g.F a = some o → g.B a = none
structure Ext (ob : Ob) (g : Gh) (H : Hp) (g' : Gh) (H' : Hp) : Prop where
  le : g.le g'
  keep : ∀ p o, H p = some o → g.B p = none → H' p = some o
  nF : ∀ p o, H p = some o → g.F p = none → g'.F p = none
  nB : ∀ p o, H p = some o → g.B p = none → g'.B p = none
  ok : WOk ob g' H'
section
variable {ob : Ob} {g g1 g2 : Gh} {H H1 H2 : Hp}
theorem Ext.refl (w : WOk ob g H) : Ext ob g H g H := ⟨.refl g, fun _ _ h _ => h, fun _ _ _ h => h, fun _ _ _ h => h, w⟩
theorem Ext.trans (a : Ext ob g H g1 H1) (b : Ext ob g1 H1 g2 H2) : Ext ob g H g2 H2 where
  le := a.le.trans b.le
  keep := fun p o h n => b.keep p o (a.keep p o h n) (a.nB p o h n)
  nF := fun p o h n => by
    cases q : g.B p with
    | none => exact b.nF p o (a.keep p o h q) (a.nF p o h n)
    | some c =>
      obtain ⟨o', h', _⟩ := a.ok.b p c (a.le.b p c q)
      exact b.nF p o' h' (a.nF p o h n)
  nB := fun p o h n => b.nB p o (a.keep p o h n) (a.nB p o h n)
  ok := b.ok
theorem WOk.fresh (w : WOk ob g H) {p : Addr} (h : H p = none) : g.F p = none ∧ g.B p = none := by
  constructor
  · cases q : g.F p with
    | none => rfl
    | some o => rw [w.f p o q] at h; cases h
  · cases q : g.B p with
    | none => rfl
    | some c =>
      obtain ⟨o, h', _⟩ := w.b p c q
      rw [h'] at h; cases h
/-- fresh behind is fresh ahead -/
theorem Ext.back (x : Ext ob g H g1 H1) {p : Addr} (h : H1 p = none) : H p = none := by
  cases q : H p with
  | none => rfl
  | some o =>
    cases qb : g.B p with
    | none => rw [x.keep p o q qb] at h; cases h
    | some c =>
      obtain ⟨o', h', _⟩ := x.ok.b p c (x.le.b p c qb)
      rw [h'] at h; cases h
/-- a new object of the def's own -/
theorem Ext.own (w : WOk ob g H) {p : Addr} {o : HO} (h : H p = none) : Ext ob g H g (upd H p o) where
  le := .refl g
  keep := fun q u e _ => by rw [upd_ne (ne_of_none e h)]; exact e
  nF := fun _ _ _ n => n
  nB := fun _ _ _ n => n
  ok := ⟨fun a u e => by rw [upd_ne (ne_of_none (w.f a u e) h)]; exact w.f a u e, fun a c e => by
    obtain ⟨u, e1, e2⟩ := w.b a c e
    exact ⟨u, by rw [upd_ne (ne_of_none e1 h)]; exact e1, e2⟩, w.fb⟩
def Gh.put (g : Gh) (p : Addr) (o : HO) : Gh := ⟨upd g.F p o, g.B⟩
theorem Gh.put_le {p : Addr} {o : HO} (h : g.F p = none) : g.le (g.put p o) := ⟨fun a u e => by
  show upd g.F p o a = _
  rw [upd_ne (ne_of_none e h)]; exact e, fun _ _ e => e⟩
theorem put_F {p : Addr} {o : HO} : (g.put p o).F p = some o := upd_same
/-- an object that nobody else knows is frozen -/
theorem Ext.freeze (x : Ext ob g H g1 H1) {p : Addr} {o : HO} (h : H p = none) (h1 : H1 p = some o) (hf : g1.F p = none) (hb : g1.B p = none) : Ext ob g H (g1.put p o) H1 where
  le := x.le.trans (Gh.put_le hf)
  keep := x.keep
  nF := fun q u e n => by
    show upd g1.F p o q = none
    rw [upd_ne (ne_of_none e h)]; exact x.nF q u e n
  nB := x.nB
  ok := ⟨fun a u e => by
    by_cases ha : a = p
    · subst ha
      have e' : upd g1.F a o a = some u := e
      rw [upd_same] at e'
      rw [h1]; exact e'
    · have e' : upd g1.F p o a = some u := e
      rw [upd_ne ha] at e'
      exact x.ok.f a u e', fun a c e => by
    obtain ⟨u, e1, e2⟩ := x.ok.b a c e
    exact ⟨u, e1, ob.mono (Gh.put_le hf) e2⟩, fun a u e => by
    by_cases ha : a = p
    · subst ha; exact hb
    · have e' : upd g1.F p o a = some u := e
      rw [upd_ne ha] at e'
      exact x.ok.fb a u e'⟩
/-- a new immutable object -/
theorem Ext.new (w : WOk ob g H) {p : Addr} {o : HO} (h : H p = none) : Ext ob g H (g.put p o) (upd H p o) :=
  (Ext.own w h).freeze h upd_same (w.fresh h).1 (w.fresh h).2
/-- an object that g and B do not know, and that stood not at the beginning, is written -/
theorem Ext.write (x : Ext ob g H g1 H1) {p : Addr} {o : HO} (h : H p = none) (hf : g1.F p = none) (hb : g1.B p = none) : Ext ob g H g1 (upd H1 p o) where
  le := x.le
  keep := fun q u e n => by rw [upd_ne (ne_of_none e h)]; exact x.keep q u e n
  nF := x.nF
  nB := x.nB
  ok := ⟨fun a u e => by rw [upd_ne (ne_of_none e hf)]; exact x.ok.f a u e, fun a c e => by
    obtain ⟨u, e1, e2⟩ := x.ok.b a c e
    refine ⟨u, ?_, e2⟩
    rw [upd_ne (fun z => by subst z; rw [hb] at e; cases e)]
    exact e1, x.ok.fb⟩
end

/-- data, or an owned list as it stands now -/
def RepR (K : PySem.W.Frag) (g : Gh) (H : Hp) (v : V) (d : D) : Prop :=
  match d with
  | .own ds => ∃ a xs, v = .ref a ∧ H a = some (.lst xs) ∧ g.F a = none ∧ g.B a = none ∧ RepL K g xs ds
  | d => Rep K g v d
section
variable {K : PySem.W.Frag} {ob : Ob} {g g1 : Gh} {H H1 : Hp} {v : V} {d : D}
theorem RepR.of (h : Rep K g v d) : RepR K g H v d := by
  cases d <;> first | exact h | cases h
theorem RepR.pure (h : RepR K g H v d) (n : isOwn d = false) : Rep K g v d := by
  cases d <;> first | exact h | cases n
theorem RepR.ext (x : Ext ob g H g1 H1) (h : RepR K g H v d) : RepR K g1 H1 v d := by
  cases d with
  | own ds =>
    obtain ⟨a, xs, e, h1, hf, hb, hl⟩ := h
    exact ⟨a, xs, e, x.keep a _ h1 hb, x.nF a _ h1 hf, x.nB a _ h1 hb, RepL.mono x.le _ _ hl⟩
  | _ => exact Rep.mono x.le _ _ h
theorem sql_w (w : WOk ob g H) {a : Addr} {xs : List V} (h : SqL K g.F a xs) : SqL K H a xs := sql_le w.f h
theorem sqt_w (w : WOk ob g H) {a : Addr} {xs : List V} (h : SqT K g.F a xs) : SqT K H a xs := sqt_le w.f h
/-- a list to be read -/
theorem RepR.list (w : WOk ob g H) {ds : List D} (h : RepR K g H v d) (e : seen d = .lst ds) : ∃ a xs, v = .ref a ∧ SqL K H a xs ∧ RepL K g xs ds := by
  cases d with
  | own es =>
    cases e
    obtain ⟨a, xs, e, h1, hf, hb, hl⟩ := h
    exact ⟨a, xs, e, .of h1, hl⟩
  | lst es =>
    cases e
    cases (show Rep K g v _ from h) with
    | lst hs hl => exact ⟨_, _, rfl, sql_w w hs, hl⟩
  | _ => cases e
theorem RepR.tuple (w : WOk ob g H) {ds : List D} (h : RepR K g H v (.tup ds)) : ∃ a xs, v = .ref a ∧ SqT K H a xs ∧ RepL K g xs ds := by
  cases (show Rep K g v _ from h) with
  | tup hs hl => exact ⟨_, _, rfl, sqt_w w hs, hl⟩
end
/- data as the library data -/
mutual
theorem dp_of {K : PySem.W.Frag} {ob : Ob} {g : Gh} {H : Hp} (w : WOk ob g H) : ∀ (d : D) (v : V) (e : PyData), Rep K g v d → toPy d = some e → Dp K H v e
  | .non, _, _, h, q => by cases h; cases q; exact .non
  | .bl b, _, _, h, q => by cases h; cases q; exact .bl b
  | .int i, _, _, h, q => by cases h; cases q; exact .int i
  | .str x, _, _, h, q => by cases h; cases q; exact .str x
  | .lst ds, _, _, h, q => by
    cases h with
    | lst hs hl =>
      unfold toPy at q
      cases r : toPys ds with
      | none => rw [r] at q; cases q
      | some es =>
        rw [r] at q; cases q
        exact .lst (sql_w w hs) (dps_of w ds _ es hl r)
  | .tup ds, _, _, h, q => by
    cases h with
    | tup hs hl =>
      unfold toPy at q
      cases r : toPys ds with
      | none => rw [r] at q; cases q
      | some es =>
        rw [r] at q; cases q
        exact .tup (sqt_w w hs) (dps_of w ds _ es hl r)
  | .own ds, _, _, h, _ => by cases h
  | .obj _ _, _, _, _, q => by unfold toPy at q; cases q
theorem dps_of {K : PySem.W.Frag} {ob : Ob} {g : Gh} {H : Hp} (w : WOk ob g H) : ∀ (ds : List D) (vs : List V) (es : List PyData), RepL K g vs ds → toPys ds = some es → DpAll K H vs es
  | [], _, _, h, q => by cases h; cases q; exact .nil
  | d :: ds, _, _, h, q => by
    cases h with
    | cons h1 h2 =>
      unfold toPys at q
      cases r1 : toPy d with
      | none => rw [r1] at q; cases q
      | some e =>
        cases r2 : toPys ds with
        | none => rw [r1, r2] at q; cases q
        | some es =>
          rw [r1, r2] at q; cases q
          exact .cons (dp_of w d _ e h1 r1) (dps_of w ds _ es h2 r2)
end
theorem dp_ofR {K : PySem.W.Frag} {ob : Ob} {g : Gh} {H : Hp} (w : WOk ob g H) {d : D} {v : V} {e : PyData} (h : RepR K g H v d) (q : toPy (seen d) = some e) : Dp K H v e := by
  cases d with
  | own ds =>
    obtain ⟨a, xs, ev, h1, hf, hb, hl⟩ := h
    subst ev
    have q' : toPy (.lst ds) = some e := q
    unfold toPy at q'
    cases r : toPys ds with
    | none => rw [r] at q'; cases q'
    | some es =>
      rw [r] at q'; cases q'
      exact .lst (.of h1) (dps_of w ds _ es hl r)
  | _ => exact dp_of w _ _ _ h q
end MP

/-! MiniPy: what syntax stands for which text of the model. -/
namespace MP
open PySem PySem.Spec PyProof.Rows L2

/-- a def's names, its scope; fnc: within a comprehension's block, the block's own scope; the defs by number -/
structure Gam where
  N : List Str
  sc : Scope
  fnc : Option Scope
  fname : Nat → Option Str
  dfl : Nat → List (List Int)

def visB (sc : Scope) (x : Str) : Bool := match sc.names.lookup x with
  | some .local => true | some .cell => true | some .free => true | _ => false
def locB (Γ : Gam) (x : Str) : Bool := match Γ.sc.names.lookup x with
  | some .local => true
  | some .cell => (match Γ.fnc with | none => true | some s => decide (s.names.lookup x = some .cell))
  | _ => false
def glB (sc : Scope) (x : Str) : Bool := decide (sc.names.lookup x = some .globalImplicit)
def opB : BOp → Operator → Bool
  | .add, .Add | .sub, .Sub | .mul, .Mult | .fdiv, .FloorDiv | .mod, .Mod | .pow, .Pow => true
  | _, _ => false
def copB : COp → CmpOp → Bool
  | .lt, .Lt | .le, .LtE | .gt, .Gt | .ge, .GtE | .eq, .Eq | .ne, .NotEq | .is, .Is | .isnot, .IsNot => true
  | _, _ => false
def pname : Pm → Str
  | .len => "len" | .abs => "abs" | .int => "int" | .list => "list" | .tuple => "tuple"
  | _ => "isinstance"
/-- the class that an isinstance asks -/
def pcls : Pm → Option (Str × String)
  | .isInt => some ("int", "int") | .isBool => some ("bool", "bool") | .isTuple => some ("tuple", "tuple") | .isList => some ("list", "list") | .isStr => some ("str", "str")
  | _ => none
def nameAt (Γ : Gam) (i : Nat) (x : Str) : Bool := decide (Γ.N[i]? = some x)
def slotB (Γ : Gam) (i : Nat) (x : Str) : Bool := nameAt Γ i x && visB Γ.sc x && !(x == ("__debug__" : Str)) && !(x == ("__classdict__" : Str))
def tgB (Γ : Gam) (j : Nat) (x : Str) : Bool := nameAt Γ j x && locB Γ x
def ownL (N : List Str) (own : List Nat) : List (Str × Nat) := own.map fun j => (N.getD j ⟨#[]⟩, j)
def mTgs (Γ : Gam) : List Nat → List Expr → Bool
  | [], [] => true
  | j :: js, .Name x _ :: ts => tgB Γ j x && mTgs Γ js ts
  | _, _ => false
def mTg (Γ : Gam) (js : List Nat) (e : Expr) : Bool := match e with
  | .Name x _ => (match js with | [j] => tgB Γ j x | _ => false)
  | .Tuple ts _ _ => (match js with | _ :: _ :: _ => mTgs Γ js ts | _ => false)
  | _ => false
/-- tests that are their value's truth -/
def plainT : Expr → Bool
  | .Name .. | .Call .. | .Subscript .. => true
  | _ => false

mutual
def mE (Γ : Gam) : E → Expr → Bool
  | .slot i, .Name x _ => slotB Γ i x
  | .cint i, .Constant (.int j) _ _ => decide (i = j)
  | .cbl b, .Constant (.bool c) _ _ => decide (b = c)
  | .cnon, .Constant .none _ _ => true
  | .cstr x, .Constant (.str y) _ _ => decide (x = y)
  | .bin op a b, .BinOp x o y _ => opB op o && mE Γ a x && mE Γ b y
  | .neg a, .UnaryOp .USub x _ => mE Γ a x
  | .cmp op a b, .Compare x [o] [y] _ => copB op o && mE Γ a x && mE Γ b y
  | .andV es, .BoolOp .And xs _ => mEs Γ es xs
  | .orV es, .BoolOp .Or xs _ => mEs Γ es xs
  | .notV a, .UnaryOp .Not x _ => mE Γ a x
  | .ite t a b, .IfExp c x y _ => mT Γ t c && mE Γ a x && mE Γ b y
  | .tup es, .Tuple xs _ _ => mEs Γ es xs
  | .lst es, .List xs _ => mEs Γ es xs
  | .idx a b, .Subscript x y _ => mE Γ a x && mE Γ b y
  | .slc a lo hi, .Subscript x (.Slice l h none _) _ => mE Γ a x && mO Γ lo l && mO Γ hi h
  | .call f es dv, .Call (.Name x _) xs [] _ => decide (Γ.fname f = some x) && glB Γ.sc x && !(x == ("__debug__" : Str)) && decide (dv ∈ Γ.dfl f) && mEs Γ es xs
  | .prim p es, .Call (.Name x _) xs [] _ => decide (x = pname p) && glB Γ.sc x && (match pcls p with
    | none => (match xs with | [_] => mEs Γ es xs | _ => false)
    | some (c, _) => (match xs with | [y, .Name z _] => mEs Γ es [y] && decide (z = c) && glB Γ.sc z | _ => false))
  | .comp elt tg it ts own, .ListComp y [⟨tx, ix, ifs, a⟩] scope _ =>
    decide (a = 0) && blkC Γ.N Γ.sc scope (ownL Γ.N own) && mIt Γ it ix && (let Γ' := { Γ with sc := relS scope Γ.sc, fnc := some scope };
      mE Γ' elt y && mTg Γ' tg tx && tg.all (fun j => decide (j ∈ own)) && mTs Γ' ts ifs && decide (ifs.length ≤ 1))
  | .dget i k, .Subscript (.Name x _) y _ => slotB Γ i x && mE Γ k y
  | .rev a, .Subscript x (.Slice none none (some (.UnaryOp .USub (.Constant (.int j) _ _) _)) _) _ => decide (j = 1) && mE Γ a x
  | _, _ => false
def mEs (Γ : Gam) : Es → List Expr → Bool
  | .nil, [] => true
  | .cons e es, x :: xs => mE Γ e x && mEs Γ es xs
  | _, _ => false
def mO (Γ : Gam) : O → Option Expr → Bool
  | .none, none => true
  | .some e, some x => mE Γ e x
  | _, _ => false
def mT (Γ : Gam) : T → Expr → Bool
  | .tru e, x => plainT x && mE Γ e x
  | .cmp op a b, .Compare x [o] [y] _ => copB op o && mE Γ a x && mE Γ b y
  | .chain op op' a b c, .Compare x [o, o'] [y, z] _ => copB op o && copB op' o' && mE Γ a x && mE Γ b y && mE Γ c z
  | .and ts, .BoolOp .And xs _ => mTs Γ ts xs && !xs.isEmpty
  | .or ts, .BoolOp .Or xs _ => mTs Γ ts xs && !xs.isEmpty
  | .not t, .UnaryOp .Not x _ => mT Γ t x
  | _, _ => false
def mTs (Γ : Gam) : Ts → List Expr → Bool
  | .nil, [] => true
  | .cons t ts, x :: xs => mT Γ t x && mTs Γ ts xs
  | _, _ => false
def mIt (Γ : Gam) : It → Expr → Bool
  | .rng1 a, .Call (.Name f _) [x] [] _ => decide (f = ("range" : Str)) && glB Γ.sc f && mE Γ a x
  | .rng2 a b, .Call (.Name f _) [x, y] [] _ => decide (f = ("range" : Str)) && glB Γ.sc f && mE Γ a x && mE Γ b y
  | .seq e, x => mE Γ e x
  | _, _ => false
end
def isTup : Expr → Bool
  | .Tuple .. => true
  | _ => false
def locL (sc : Scope) (x : Str) : Bool := decide (sc.names.lookup x = some .local)
mutual
def mS (Γ : Gam) : S → Stmt → Bool
  | .set i e, .Assign [.Name x _] v _ => tgB Γ i x && mE Γ e v
  | .setM i e, .Assign [.Name x _] v _ => tgB Γ i x && mE Γ e v
  | .unp is e, .Assign [.Tuple ts _ _] v _ => mTgs Γ is ts && mE Γ e v && !isTup v
  | .par i j a b, .Assign [.Tuple [.Name x px, .Name y py] _ _] (.Tuple [u, v] _ _) _ =>
    nameAt Γ i x && nameAt Γ j y && decide (i ≠ j) && locL Γ.sc x && locL Γ.sc y && mE Γ a u && mE Γ b v && decide (px.line = py.line) && decide (x ≠ y) && Γ.fnc.isNone &&
      !(foldedForSure 8 u && foldedForSure 8 v) && !(constantsAlone 8 u && constantsAlone 8 v)
  | .aug i op e, .AugAssign (.Name x _) o v _ => tgB Γ i x && opB op o && mE Γ e v
  | .app i e, .Expr (.Call (.Attribute (.Name x _) m ap) [v] [] cp) _ => slotB Γ i x && decide (m = ("append" : Str)) && mE Γ e v && decide (ap.endLine = cp.line)
  | .setIx i j e, .Assign [.Subscript (.Name x _) y _] v _ => slotB Γ i x && mE Γ j y && mE Γ e v
  | .ins i j e, .Expr (.Call (.Attribute (.Name x _) m ap) [y, v] [] cp) _ => slotB Γ i x && decide (m = ("insert" : Str)) && mE Γ j y && mE Γ e v && decide (ap.endLine = cp.line)
  | .popTo k i j, .Assign [.Name z _] (.Call (.Attribute (.Name x _) m ap) [y] [] cp) _ => tgB Γ k z && slotB Γ i x && decide (k ≠ i) && decide (m = ("pop" : Str)) && mE Γ j y && decide (ap.endLine = cp.line)
  | .popE i, .Expr (.Call (.Attribute (.Name x _) m ap) [] [] cp) _ => slotB Γ i x && decide (m = ("pop" : Str)) && decide (ap.endLine = cp.line)
  | .ifS t a b, .If c x y _ => mT Γ t c && mSs Γ a x && mSs Γ b y
  | .forS tg it body, .For t i b [] _ => mTg Γ tg t && mIt Γ it i && mSs Γ body b
  | .whileS t body, .While c b [] _ => mT Γ t c && mSs Γ body b
  | .ret e, .Return (some v) _ => mE Γ e v
  | .ret .cnon, .Return none _ => true
  | .brk, .Break _ => true
  | .cont, .Continue _ => true
  | .pass, .Pass _ => true
  | .bad, _ => true
  | .dnew i, .Assign [.Name x _] (.Dict [] [] _) _ => tgB Γ i x
  | .dset i k e, .Assign [.Subscript (.Name x _) y _] v _ => slotB Γ i x && mE Γ k y && mE Γ e v
  | _, _ => false
def mSs (Γ : Gam) : Ss → List Stmt → Bool
  | .nil, [] => true
  | .cons (.frz _) ss, sts => mSs Γ ss sts
  | .cons s ss, st :: sts => mS Γ s st && mSs Γ ss sts
  | _, _ => false
end
end MP

set_option maxHeartbeats 1000000
/-! MiniPy: dicts of a def's own, with tuples as keys. -/
namespace MP
open PySem PySem.Spec PyProof.Rows L2

def NDict (wd : World) (a : Addr) (xs : List (NestedKey × Addr × Value)) : Heap → Prop := fun h =>
  ∃ o es ep, h.get? a = some o ∧ o.ExactDict ∧ o.data = .dict es ep ∧ es.toList = xs.map (fun x => (⟨x.1.hash wd, .ref x.2.1, x.2.2⟩ : DictEntry)) ∧ (xs.map (·.1)).Nodup
theorem NDict.at' {wd : World} {a : Addr} {xs : List (NestedKey × Addr × Value)} {h h' : Heap} (x : NDict wd a xs h) (k : ∀ o, h.get? a = some o → h'.get? a = some o) : NDict wd a xs h' :=
  let ⟨o, es, ep, e, r⟩ := x; ⟨o, es, ep, k o e, r⟩
theorem ndict_ok {P : Program} {wd : World} {H : Hp} {h : Heap} {a : Addr} {xs : List (NestedKey × Addr × Value)} (x : NDict wd a xs h) : ObjOk P wd H h a (.ext (NDict wd a xs)) :=
  ⟨x, let ⟨o, _, _, e, _⟩ := x; ⟨o, e⟩, fun _ _ q k => q.at' k⟩
structure KRel (K : PySem.W.Frag) (g : Gh) (p : NestedKey × D) (q : NestedKey × Addr × Value) : Prop where
  key : p.1 = q.1
  tup : ∃ kd, Rep K g (.ref q.2.1) kd ∧ keyT kd = some p.1
  val : ∃ v, RelV v q.2.2 ∧ Rep K g v p.2
def DRel (K : PySem.W.Frag) (wd : World) (g : Gh) (a : Addr) (u : HO) (kvs : List (NestedKey × D)) : Prop :=
  (a == sysModules) = false ∧ ∃ xs, u = .ext (NDict wd a xs) ∧ Paired (KRel K g) kvs xs
theorem KRel.mono {K : PySem.W.Frag} {g g' : Gh} (e : g.le g') {p : NestedKey × D} {q : NestedKey × Addr × Value} (h : KRel K g p q) : KRel K g' p q := by
  obtain ⟨h1, ⟨kd, h2, h3⟩, v, h4, h5⟩ := h
  exact ⟨h1, ⟨kd, Rep.mono e _ _ h2, h3⟩, v, h4, Rep.mono e _ _ h5⟩
theorem DRel.mono {K : PySem.W.Frag} {wd : World} {g g' : Gh} {a : Addr} {u : HO} {kvs : List (NestedKey × D)} (e : g.le g') (h : DRel K wd g a u kvs) : DRel K wd g' a u kvs := by
  obtain ⟨h0, xs, h1, h2⟩ := h
  exact ⟨h0, xs, h1, L2.Paired.mapP h2 fun _ _ => KRel.mono e⟩
section
variable {K : PySem.W.Frag} {g : Gh} {kvs : List (NestedKey × D)} {xs : List (NestedKey × Addr × Value)} {k : NestedKey}
theorem krel_get (r : Paired (KRel K g) kvs xs) {d : D} (e : getK kvs k = some d) : ∃ p v, atKey xs k = some p ∧ RelV v p.2 ∧ Rep K g v d := by
  induction r with
  | nil => cases e
  | @cons p q ps qs h t ih =>
    by_cases hk : p.1 = k
    · have : getK (p :: ps) k = some p.2 := by simp [getK, hk]
      rw [this] at e
      cases e
      obtain ⟨v, h4, h5⟩ := h.val
      exact ⟨q.2, v, by simp [atKey, ← h.key, hk], h4, h5⟩
    · have e1 : getK (p :: ps) k = getK ps k := by simp [getK, hk]
      rw [e1] at e
      obtain ⟨p', v, h1, h2⟩ := ih e
      exact ⟨p', v, by rw [← h1]; simp [atKey, ← h.key, hk], h2⟩
theorem krel_some (r : Paired (KRel K g) kvs xs) : (getK kvs k).isSome = (atKey xs k).isSome := by
  induction r with
  | nil => rfl
  | @cons p q ps qs h t ih =>
    by_cases hk : p.1 = k
    · simp [getK, atKey, ← h.key, hk]
    · have e1 : getK (p :: ps) k = getK ps k := by simp [getK, hk]
      have e2 : atKey (q :: qs) k = atKey qs k := by simp [atKey, ← h.key, hk]
      rw [e1, e2, ih]
theorem krel_map (r : Paired (KRel K g) kvs xs) {d : D} {v : V} {u : Value} (hv : RelV v u) (hr : Rep K g v d) : Paired (KRel K g) (kvs.map fun p => if p.1 = k then (p.1, d) else p) (xs.map (putAt k u)) := by
  induction r with
  | nil => exact .nil
  | @cons p q ps qs h t ih =>
    refine .cons ?_ ih
    show KRel K g (if p.1 = k then (p.1, d) else p) (putAt k u q)
    by_cases hk : p.1 = k
    · have hq : q.1 = k := h.key ▸ hk
      rw [if_pos hk]
      unfold putAt
      rw [if_pos hq]
      exact ⟨h.key, h.tup, v, hv, hr⟩
    · have hq : ¬ q.1 = k := h.key ▸ hk
      rw [if_neg hk]
      unfold putAt
      rw [if_neg hq]
      exact h
theorem paired_snoc {α β : Type} {F : α → β → Prop} {as : List α} {bs : List β} {a : α} {b : β} (r : Paired F as bs) (h : F a b) : Paired F (as ++ [a]) (bs ++ [b]) := by
  induction r with
  | nil => exact .cons h .nil
  | cons h' t ih => exact .cons h' ih
theorem krel_put (r : Paired (KRel K g) kvs xs) {d kd : D} {b : Addr} {v : V} {u : Value} (hv : RelV v u) (hr : Rep K g v d) (hk : Rep K g (.ref b) kd) (he : keyT kd = some k) : Paired (KRel K g) (setK kvs k d) (storedH xs k b u) := by
  unfold setK storedH
  rw [krel_some r]
  by_cases hs : (atKey xs k).isSome = true
  · rw [if_pos hs, if_pos hs]
    exact krel_map r hv hr
  · rw [if_neg hs, if_neg hs]
    exact paired_snoc r ⟨rfl, ⟨kd, hk, he⟩, v, hv, hr⟩
end
section
variable {ob : Ob} {X : Cx} {pins : List (Addr × Obj)} {σ : L2.St} {g : Gh} {H : Hp} {s : Shared}
mutual
theorem nest_is (I : Inv X pins σ H s) (w : WOk ob g H) : ∀ (d : D) (v : V) (u : Value) (k : NestedKey), Rep X.K g v d → keyD d = some k → RelV v u → NestedIs s.heap k u
  | .non, _, u, k, h, e, r => by
    cases h
    simp only [keyD] at e
    cases e
    cases (show u = Value.none from r)
    exact .none
  | .int i, _, u, k, h, e, r => by
    cases h
    simp only [keyD] at e
    cases e
    obtain ⟨t, rfl⟩ := r
    exact .int i t
  | .str x, _, u, k, h, e, r => by
    cases h
    simp only [keyD] at e
    cases e
    obtain ⟨t, rfl⟩ := r
    exact .text x t
  | .tup ds, _, u, k, h, e, r => by
    cases h with
    | @tup a xs _ hs hl =>
      simp only [keyD] at e
      cases ek : keyDs ds with
      | none => rw [ek] at e; cases e
      | some ks =>
        rw [ek] at e
        cases e
        cases (show u = Value.ref a from r)
        obtain ⟨its, rv, p, hz⟩ := I.tuple (sqt_w w hs)
        obtain ⟨o, h1, h2, n, h3⟩ := p
        exact .tup h1 h2 h3 (by simpa using nest_all I w ds xs its ks hl ek rv)
  | .bl b, _, u, k, h, e, r => by simp [keyD] at e
  | .lst ds, _, u, k, h, e, r => by simp [keyD] at e
  | .own ds, _, u, k, h, e, r => by simp [keyD] at e
  | .obj t d, _, u, k, h, e, r => by simp [keyD] at e
theorem nest_all (I : Inv X pins σ H s) (w : WOk ob g H) : ∀ (ds : List D) (vs : List V) (us : List Value) (ks : List NestedKey), RepL X.K g vs ds → keyDs ds = some ks → Vals vs us → NestedAll s.heap ks us
  | [], _, _, _, h, e, r => by
    cases h
    simp only [keyDs] at e
    cases e
    cases r
    exact .nil
  | d :: ds, _, _, _, h, e, r => by
    cases h with
    | cons h1 h2 =>
      cases r with
      | cons r1 r2 =>
        simp only [keyDs] at e
        cases e1 : keyD d with
        | none => rw [e1] at e; cases e
        | some k =>
          cases e2 : keyDs ds with
          | none => rw [e1, e2] at e; cases e
          | some ks =>
            rw [e1, e2] at e
            cases e
            exact .cons (nest_is I w d _ _ k h1 e1 r1) (nest_all I w ds _ _ ks h2 e2 r2)
end
theorem key_is (I : Inv X pins σ H s) (w : WOk ob g H) {d : D} {b : Addr} {k : NestedKey} (h : Rep X.K g (.ref b) d) (e : keyT d = some k) : (nestedKind X.prog X.w).is s.heap k b := by
  unfold keyT at e
  split at e
  · split at e
    · rename_i ds k' ek
      split at e
      · rename_i hd
        cases e
        exact ⟨nest_is I w _ _ _ _ h ek rfl, of_decide_eq_true hd⟩
      · cases e
    · cases e
  · cases e
theorem dict_of (I : Inv X pins σ H s) (w : WOk ob g H) {a : Addr} {kvs : List (NestedKey × D)} {xs : List (NestedKey × Addr × Value)} (h1 : H a = some (.ext (NDict X.w a xs))) (r : Paired (KRel X.K g) kvs xs) : s.heap.DictOfH (nestedKind X.prog X.w) a xs := by
  have hx : NDict X.w a xs s.heap := (show ObjOk X.prog X.w H s.heap a (.ext (NDict X.w a xs)) from I.hok a _ h1).1
  obtain ⟨o, es, ep, e1, e2, e3, e4, e5⟩ := hx
  refine ⟨o, es, ep, e1, e2, e3, e4, ?_, e5⟩
  clear h1 e4 e5
  induction r with
  | nil => intro x hx; cases hx
  | @cons p q ps qs h t ih =>
    intro x hx
    rcases List.mem_cons.mp hx with rfl | hx
    · obtain ⟨kd, h2, h3⟩ := h.tup
      rw [← h.key]
      exact key_is I w h2 h3
    · exact ih x hx
theorem n_getItem {a b : Addr} {u : HO} {kvs : List (NestedKey × D)} {kd d : D} {k : NestedKey} {Q : Value → Shared → Prop} {A : Around} {E : Value → Shared → Prop} (hu : A.units + 64 < cLine) (I : Inv X pins σ H s) (w : WOk ob g H) (h1 : H a = some u) (r : DRel X.K X.w g a u kvs)
    (hk : Rep X.K g (.ref b) kd) (ek : keyT kd = some k) (eg : getK kvs k = some d) (q : ∀ w' s' v, Inv X pins σ H s' → RelV v w' → Rep X.K g v d → Q w' s') :
    wpAny (model X.prog X.w) A (getItem (.ref a) (.ref b)) Q E s := by
  obtain ⟨hd, xs, rfl, rp⟩ := r
  obtain ⟨p, v, hp, hv, hr⟩ := krel_get rp eg
  refine wpAny_getItem_heap (knd := nestedKind X.prog X.w) (show A.in1.units + 8 < cLine by show A.units + 1 + 8 < cLine; omega) (key_is I w hk ek) (dict_of I w h1 rp) hp ?_
  exact q _ _ v (I.tok _) hv hr
theorem n_setItem {a b : Addr} {u : HO} {kvs : List (NestedKey × D)} {kd d : D} {k : NestedKey} {v : V} {r : Value} {Q : Unit → Shared → Prop} {A : Around} {E : Value → Shared → Prop} (hu : A.units + 64 < cLine) (I : Inv X pins σ H s) (w : WOk ob g H) (h1 : H a = some u) (rd : DRel X.K X.w g a u kvs)
    (hk : Rep X.K g (.ref b) kd) (ek : keyT kd = some k) (hl : kvs.length < line) (rv : RelV v r) (hr : Rep X.K g v d)
    (q : ∀ s' u', DRel X.K X.w g a u' (setK kvs k d) → Inv X pins σ (upd H a u') s' → Q () s') :
    wpAny (model X.prog X.w) A (setItem (.ref a) (.ref b) r) Q E s := by
  obtain ⟨hd, xs, rfl, rp⟩ := rd
  have hz : xs.length ≤ sizeLine := by rw [← Paired.length rp, sizeLine_eq]; unfold line at hl; omega
  refine wpAny_setItem_heap (knd := nestedKind X.prog X.w) (hsz := hz) (show A.in1.units + 8 < cLine by show A.units + 1 + 8 < cLine; omega) (key_is I w hk ek) (dict_of I w h1 rp) fun h' dd' hs => ?_
  obtain ⟨o, es, ep, hq, h2, h3, h4, _, h5⟩ := dd'
  refine q _ (.ext (NDict X.w a (storedH xs k b r))) ⟨hd, _, rfl, krel_put rp rv hr hk ek⟩ ?_
  exact d_write I (by rw [h1]; exact True.intro) hs ⟨o, hq⟩ (ndict_ok ⟨o, es, ep, hq, h2, h3, h4, h5⟩)
/-- the readings -/
def tNGet (K : PySem.W.Frag) (wd : World) (td ty : TE) : TE := fun σ H Q => td σ H fun x H1 => ty σ H1 fun y H2 => ∃ (ob : Ob) (a b : Addr) (g : Gh) (u : HO) (kvs : List (NestedKey × D)) (kd d : D) (k : NestedKey),
  x = .ref a ∧ y = .ref b ∧ WOk ob g H2 ∧ H2 a = some u ∧ DRel K wd g a u kvs ∧ Rep K g (.ref b) kd ∧ keyT kd = some k ∧ getK kvs k = some d ∧ ∀ v, Rep K g v d → Q v H2
def sNPut (K : PySem.W.Frag) (wd : World) (td ty tv : TE) : TS := fun Dn σ H => tv σ H fun v H1 => td σ H1 fun x H2 => ty σ H2 fun y H3 => ∃ (ob : Ob) (a b : Addr) (g : Gh) (u : HO) (kvs : List (NestedKey × D)) (kd d : D) (k : NestedKey),
  x = .ref a ∧ y = .ref b ∧ WOk ob g H3 ∧ H3 a = some u ∧ DRel K wd g a u kvs ∧ Rep K g (.ref b) kd ∧ keyT kd = some k ∧ kvs.length < line ∧ Rep K g v d ∧ ∀ u', DRel K wd g a u' (setK kvs k d) → Dn.nx σ (upd H3 a u')
def tNNew (wd : World) : TE := fun _ H Q => ∀ p, H p = none → (p == sysModules) = false → Q (.ref p) (upd H p (.ext (NDict wd p [])))
end
section
variable {X : Cx} {o i value : Expr} {pos pos' : Pos} {td ty tv : TE}
theorem pe_nget (hu : X.A.units + 64 < cLine) (ho : PE X o td) (hi : PE X i ty) (hs : NoSl i) : PE X (.Subscript o i pos) (tNGet X.K X.w td ty) := by
  refine ⟨fun pins s σ H Q I h => ?_⟩
  refine subD_of PySem.F.slot_dict_getitem.lookup hs (thn (ho.run pins s σ H _ I h) fun u s1 ⟨x, H1, I1, rx, q1⟩ => thn (hi.run pins s1 σ H1 _ I1 q1) fun iv s2 ⟨y, H2, I2, ry, ob, a, b, g, u', kvs, kd, d, k, ex, ey, w, h1, hr, hk, ek, eg, q2⟩ => ?_)
  subst ex ey
  obtain rfl : u = Value.ref a := rx
  obtain rfl : iv = Value.ref b := ry
  have ht : s2.TypeIs (.ref a) "dict" := by
    obtain ⟨hd, xs, rfl, rp⟩ := id hr
    exact (dict_of I2 w h1 rp).typeIs
  exact ⟨ht, n_getItem hu I2 w h1 hr hk ek eg fun w' s3 v I3 rw' rv => ⟨v, H2, I3, rw', q2 v rv⟩⟩
theorem ps_nput (hu : X.A.units + 64 < cLine) (ho : PE X o td) (hi : PE X i ty) (hv : PE X value tv) (hs : swapsWith value (some (.Subscript o i pos')) pos.line X.env = pure false) :
    PS X (.Assign [.Subscript o i pos'] value pos) (sNPut X.K X.w td ty tv) := by
  refine ⟨fun pins s σ H D I h => ?_⟩
  refine wpAny_Assign_Subscript (thn (hv.run pins s σ H _ I h) fun r s1 ⟨v, H1, I1, rv, q1⟩ => thn (ho.run pins s1 σ H1 _ I1 q1) fun u s2 ⟨x, H2, I2, rx, q2⟩ => thn (hi.run pins s2 σ H2 _ I2 q2) fun iv s3 ⟨y, H3, I3, ry, ob, a, b, g, u', kvs, kd, d, k, ex, ey, w, h1, hr, hk, ek, hl, rvd, q3⟩ => ?_) hs
  subst ex ey
  obtain rfl : u = Value.ref a := rx
  obtain rfl : iv = Value.ref b := ry
  exact n_setItem hu I3 w h1 hr hk ek hl rv rvd fun s4 u'' hd I4 => ⟨σ, _, I4, q3 u'' hd⟩
theorem pe_nnew : PE X (.Dict [] [] pos) (tNNew X.w) := ⟨fun pins s σ H Q I h => by
  have hb := I.big
  have hne : (s.heap.objs.size == sysModules) = false := beq_eq_false_iff_ne.mpr (Ne.symm (Nat.ne_of_lt hb))
  exact wpAny_Dict_empty ⟨.ref s.heap.objs.size, _, I.laid (a := s.heap.objs.size) (o := .ext (NDict X.w s.heap.objs.size [])) (t' := s.toks) (fun _ _ q => Heap.get?_push_of_some _ q) (Nat.le_refl _)
    (ndict_ok (P := X.prog) ⟨_, #[], 0, Heap.get?_push_size _ rfl, ⟨rfl, rfl, rfl⟩, rfl, rfl, List.nodup_nil⟩), rfl, h _ (I.hok.fresh (Nat.le_refl _)) hne⟩⟩
end
end MP

/-! MiniPy: weakest readings, contexts, what is known in a def. -/
namespace MP
open PySem PySem.Spec PyProof.Rows L2

/-! ### the weakest reading of a piece of text -/
def wpE (X : Cx) (e : Expr) : TE := fun σ H Q => ∀ (pins : List (Addr × Obj)) (s : Shared), Inv X pins σ H s → wpAny (model X.prog X.w) X.A (eval e X.env) (EP X pins σ Q) X.xe s
def wpT (X : Cx) (e : Expr) : TT := fun σ H Q => ∀ (pins : List (Addr × Obj)) (s : Shared), Inv X pins σ H s → wpAny (model X.prog X.w) X.A (isTrue e X.env (eval e X.env)) (TP X pins σ Q) X.xe s
def wpW (X : Cx) (e : Expr) : TT := fun σ H Q => ∀ (whole : Sem Value) (pins : List (Addr × Obj)) (s : Shared), Inv X pins σ H s → wpAny (model X.prog X.w) X.A (isTrue e X.env whole) (TP X pins σ Q) X.xe s
def wpA (X : Cx) (es : List Expr) : TA := fun σ H Q => ∀ (pos : Pos) (pins : List (Addr × Obj)) (s : Shared), Inv X pins σ H s → wpAny (model X.prog X.w) X.A (spliced (backTo pos (starEach es X.env))) (AP X pins σ Q) X.xe s
def wpS (X : Cx) (st : Stmt) : TS := fun D σ H => ∀ (pins : List (Addr × Obj)) (s : Shared), Inv X pins σ H s → wpAny (model X.prog X.w) X.A (exec st X.env) (SP X pins D) X.xe s
def wpSs (X : Cx) (st : List Stmt) : TS := fun D σ H => ∀ (pins : List (Addr × Obj)) (s : Shared), Inv X pins σ H s → wpAny (model X.prog X.w) X.A (execs st X.env) (SP X pins D) X.xe s
def wpG (X : Cx) (tg : Expr) : TG := fun v σ H Q => ∀ (pins : List (Addr × Obj)) (s : Shared) (u : Value), Inv X pins σ H s → RelV v u →
    wpAny (model X.prog X.w) X.A (assign tg X.env u) (fun _ s' => ∃ σ' H', Inv X pins σ' H' s' ∧ Q σ' H') X.xe s
def wpI (X : Cx) (tg it : Expr) : TI := fun σ H R => ∀ (pins : List (Addr × Obj)) (s : Shared), Inv X pins σ H s →
    wpAny (model X.prog X.w) X.A (eval it X.env) (fun v s1 => wpAny (model X.prog X.w) X.A (pyIter v) (PIE X pins σ tg R) X.xe s1) X.xe s
section
variable {X : Cx} {e : Expr} {es : List Expr} {st : Stmt} {sts : List Stmt}
theorem pe_wp : PE X e (wpE X e) := ⟨fun pins s _ _ _ I h => h pins s I⟩
theorem pt_wp : PT X e (wpT X e) := ⟨fun pins s _ _ _ I h => h pins s I⟩
theorem pw_wp : PW X e (wpW X e) := ⟨fun wh pins s _ _ _ I h => h wh pins s I⟩
theorem pa_wp : PA X es (wpA X es) := ⟨fun pos pins s _ _ _ I h => h pos pins s I⟩
theorem ps_wp : PS X st (wpS X st) := ⟨fun pins s _ _ _ I h => h pins s I⟩
theorem pss_wp : PSs X sts (wpSs X sts) := ⟨fun pins s _ _ _ I h => h pins s I⟩
theorem pg_wp : PG X e (wpG X e) := ⟨fun pins s _ _ _ u _ I r h => h pins s u I r⟩
theorem pi_wp {tg : Expr} : PI X tg e (wpI X tg e) := ⟨fun pins s _ _ _ I h => h pins s I⟩
theorem _root_.L2.PE.wp {t : TE} (h : PE X e t) {σ : L2.St} {H : Hp} {Q : VK} (q : t σ H Q) : wpE X e σ H Q := fun pins s I => h.run pins s σ H Q I q
theorem _root_.L2.PT.wp {t : TT} (h : PT X e t) {σ : L2.St} {H : Hp} {Q : Bool → Hp → Prop} (q : t σ H Q) : wpT X e σ H Q := fun pins s I => h.run pins s σ H Q I q
theorem _root_.L2.PW.wp {t : TT} (h : PW X e t) {σ : L2.St} {H : Hp} {Q : Bool → Hp → Prop} (q : t σ H Q) : wpW X e σ H Q := fun wh pins s I => h.run wh pins s σ H Q I q
theorem _root_.L2.PA.wp {t : TA} (h : PA X es t) {σ : L2.St} {H : Hp} {Q : List V → Hp → Prop} (q : t σ H Q) : wpA X es σ H Q := fun pos pins s I => h.run pos pins s σ H Q I q
theorem _root_.L2.PS.wp {t : TS} (h : PS X st t) {σ : L2.St} {H : Hp} {D : Ends} (q : t D σ H) : wpS X st D σ H := fun pins s I => h.run pins s σ H D I q
theorem _root_.L2.PSs.wp {t : TS} (h : PSs X sts t) {σ : L2.St} {H : Hp} {D : Ends} (q : t D σ H) : wpSs X sts D σ H := fun pins s I => h.run pins s σ H D I q
theorem _root_.L2.PG.wp {t : TG} (h : PG X e t) {v : V} {σ : L2.St} {H : Hp} {Q : L2.St → Hp → Prop} (q : t v σ H Q) : wpG X e v σ H Q := fun pins s u I r => h.run pins s σ H v u Q I r q
theorem _root_.L2.PI.wp {tg : Expr} {t : TI} (h : PI X tg e t) {σ : L2.St} {H : Hp} {R : L2.It → Hp → Prop} (q : t σ H R) : wpI X tg e σ H R := fun pins s I => h.run pins s σ H R I q
end

/-! ### contexts -/
structure Ctx (X : Cx) (Γ : Gam) : Prop where
  N : X.N = Γ.N
  sc : X.env.scope = Γ.sc
  fn : ∀ x, X.fn x = (match Γ.fnc with | none => true | some s => s.names.lookup x == some .cell)
  nd : Γ.N.Nodup
  calm : X.calm = true
  xe : X.xe = fun _ _ => False
  kind : Γ.sc.kind = .function
/-- what a def promises: the value of its function on data -/
def spF (ob : Ob) (K : PySem.W.Frag) (φ : List D → Option D) : Sp := fun vs H Q _ => ∃ (g : Gh) (ds : List D) (d : D), WOk ob g H ∧ RepL K g vs ds ∧ φ ds = some d ∧
  ∀ v g' H', Ext ob g H g' H' → Rep K g' v d → Q v H'
structure Fns (ob : Ob) (Φ : Nat → List D → Option D) (X : Cx) (Γ : Gam) (k : Nat) : Prop where
  room : Room k X.A
  fn : ∀ f x, Γ.fname f = some x → ∃ (a : Addr) (fd : FuncData) (ps : List Str), X.mg x = some (.ref a) ∧ PySem.W.keepIn X.K (.ref a) = true ∧ FnOk X.prog X.w X.K X.mg X.base CX0 k a fd ps (spF ob X.K (Φ f)) ∧
    ∀ dv ∈ Γ.dfl f, ∃ us, Vals (dv.map V.int) us ∧ Binds X.K fd ps us
  bl : ∀ x ∈ ([("len" : Str), "abs", "int", "list", "tuple", "isinstance", "range", "bool", "str"] : List Str), X.mg x = none

/-- the slots and what they hold -/
def SlotOk (K : PySem.W.Frag) (wd : World) (g : Gh) (H : Hp) (σ : L2.St) (i : Nat) : SV → Prop
  | .non => True
  | .val d => ∃ v, σ[i]? = some (some v) ∧ Rep K g v d
  | .mls ds => ∃ a xs, σ[i]? = some (some (.ref a)) ∧ H a = some (.lst xs) ∧ g.F a = none ∧ g.B a = none ∧ RepL K g xs ds
  | .mdc kvs => ∃ a u, σ[i]? = some (some (.ref a)) ∧ H a = some u ∧ g.F a = none ∧ g.B a = none ∧ DRel K wd g a u kvs
structure Slots (K : PySem.W.Frag) (wd : World) (g : Gh) (H : Hp) (σ : L2.St) (ρ : Rho) : Prop where
  len : σ.length = ρ.length
  at' : ∀ i sv, ρ[i]? = some sv → SlotOk K wd g H σ i sv
theorem Slots.ext {K : PySem.W.Frag} {wd : World} {ob : Ob} {g g1 : Gh} {H H1 : Hp} {σ : L2.St} {ρ : Rho} (s : Slots K wd g H σ ρ) (x : Ext ob g H g1 H1) : Slots K wd g1 H1 σ ρ := ⟨s.len, fun i sv e => by
  have h := s.at' i sv e
  cases sv with
  | non => trivial
  | val d =>
    obtain ⟨v, h1, h2⟩ := h
    exact ⟨v, h1, Rep.mono x.le _ _ h2⟩
  | mls ds =>
    obtain ⟨a, xs, h1, h2, hf, hb, h3⟩ := h
    exact ⟨a, xs, h1, x.keep a _ h2 hb, x.nF a _ h2 hf, x.nB a _ h2 hb, RepL.mono x.le _ _ h3⟩
  | mdc kvs =>
    obtain ⟨a, u, h1, h2, hf, hb, h3⟩ := h
    exact ⟨a, u, h1, x.keep a _ h2 hb, x.nF a _ h2 hf, x.nB a _ h2 hb, h3.mono x.le⟩⟩
theorem Slots.setVal {K : PySem.W.Frag} {wd : World} {g : Gh} {H : Hp} {σ : L2.St} {ρ : Rho} {v : V} {d : D} (s : Slots K wd g H σ ρ) (j : Nat) (r : Rep K g v d) : Slots K wd g H (σ.set j (some v)) (ρ.set j (.val d)) := ⟨by simp [s.len], fun i sv e => by
  by_cases h : j = i
  · subst h
    have hl : j < ρ.length := by
      have := (List.getElem?_eq_some_iff.mp e).1
      simpa using this
    rw [List.getElem?_set_self hl] at e
    cases e
    exact ⟨v, by rw [List.getElem?_set_self (by rw [s.len]; exact hl)], r⟩
  · rw [List.getElem?_set_ne h] at e
    have q := s.at' i sv e
    cases sv with
    | non => trivial
    | val d => obtain ⟨v, h1, h2⟩ := q; exact ⟨v, by rw [List.getElem?_set_ne h]; exact h1, h2⟩
    | mls ds => obtain ⟨a, xs, h1, h2⟩ := q; exact ⟨a, xs, by rw [List.getElem?_set_ne h]; exact h1, h2⟩
    | mdc ds => obtain ⟨a, xs, h1, h2⟩ := q; exact ⟨a, xs, by rw [List.getElem?_set_ne h]; exact h1, h2⟩⟩
theorem Slots.wipe {K : PySem.W.Frag} {wd : World} {g : Gh} {H : Hp} {σ : L2.St} {ρ : Rho} (s : Slots K wd g H σ ρ) : ∀ own : List Nat, Slots K wd g H (L2.wipe σ own) (wipeR ρ own)
  | [] => s
  | j :: own => by
    have ih := s.wipe own
    show Slots K wd g H ((L2.wipe σ own).set j none) ((wipeR ρ own).set j .non)
    refine ⟨by simp [ih.len], fun i sv e => ?_⟩
    by_cases h : j = i
    · subst h
      have hl : j < (wipeR ρ own).length := by
        have := (List.getElem?_eq_some_iff.mp e).1
        simpa using this
      rw [List.getElem?_set_self hl] at e
      cases e
      trivial
    · rw [List.getElem?_set_ne h] at e
      have q := ih.at' i sv e
      cases sv with
      | non => trivial
      | val d => obtain ⟨v, h1, h2⟩ := q; exact ⟨v, by rw [List.getElem?_set_ne h]; exact h1, h2⟩
      | mls ds => obtain ⟨a, xs, h1, h2⟩ := q; exact ⟨a, xs, by rw [List.getElem?_set_ne h]; exact h1, h2⟩
      | mdc ds => obtain ⟨a, xs, h1, h2⟩ := q; exact ⟨a, xs, by rw [List.getElem?_set_ne h]; exact h1, h2⟩

/-- all that is known at a place of a def's body -/
structure Here (ob : Ob) (Φ : Nat → List D → Option D) (X : Cx) (Γ : Gam) (k : Nat) (g : Gh) (H : Hp) (σ : L2.St) (ρ : Rho) : Prop where
  c : Ctx X Γ
  f : Fns ob Φ X Γ k
  w : WOk ob g H
  s : Slots X.K X.w g H σ ρ
theorem Here.ext {ob : Ob} {Φ : Nat → List D → Option D} {X : Cx} {Γ : Gam} {k : Nat} {g g1 : Gh} {H H1 : Hp} {σ : L2.St} {ρ : Rho} (h : Here ob Φ X Γ k g H σ ρ) (x : Ext ob g H g1 H1) : Here ob Φ X Γ k g1 H1 σ ρ := ⟨h.c, h.f, x.ok, h.s.ext x⟩

theorem vis_of {sc : Scope} {x : Str} (h : visB sc x = true) : Vis sc x := by
  unfold visB at h
  split at h <;> first | exact .inl (by assumption) | exact .inr (.inl (by assumption)) | exact .inr (.inr (by assumption)) | cases h
theorem gl_of {X : Cx} {Γ : Gam} {x : Str} (c : Ctx X Γ) (h : glB Γ.sc x = true) : Gl X x := by
  unfold glB at h
  show X.env.scope.names.lookup x = _
  rw [c.sc]
  exact of_decide_eq_true h
theorem loc_of {X : Cx} {Γ : Gam} {x : Str} (c : Ctx X Γ) (h : locB Γ x = true) : Loc X.env.scope x ∧ (X.fn x = true ∨ X.env.scope.names.lookup x = some .local) := by
  unfold locB at h
  rw [c.sc, c.fn]
  split at h
  · exact ⟨.inl (by assumption), .inr (by assumption)⟩
  · refine ⟨.inr (by assumption), .inl ?_⟩
    split at h
    · rename_i q; first | rw [q] | rfl
    · rename_i q; first | (rw [q]; simpa using h) | simpa using h
  · cases h
theorem star_cons {Γ : Gam} {c : E} {e : Expr} (h : mE Γ c e = true) (es : List Expr) (env : Env) : starEach (e :: es) env = (false, eval e env) :: starEach es env := by
  cases e <;> first | rfl | (exfalso; cases c <;> simp [mE] at h)
theorem not_set {Γ : Gam} {c : E} {e : Expr} (h : mE Γ c e = true) (env : Env) (x : Value) : foldedSetIterable e env x = pure x := by
  cases e <;> first | rfl | (exfalso; cases c <;> simp [mE] at h)
theorem plain_ix {Γ : Gam} {c : E} {e : Expr} (h : mE Γ c e = true) : PlainIx e := by
  intro o i
  cases e <;> first | rfl | (exfalso; cases c <;> simp [mE] at h)
theorem star_none {Γ : Gam} {pos : Pos} {env : Env} : ∀ {cs : Es} {es : List Expr}, mEs Γ cs es = true → (backTo pos (starEach es env)).any (·.1) = false
  | .nil, [], _ => rfl
  | .nil, _ :: _, h => by simp [mEs] at h
  | .cons _ _, [], h => by simp [mEs] at h
  | .cons c cs, e :: es, h => by
    simp only [mEs, Bool.and_eq_true] at h
    rw [star_cons h.1]
    show (false || (backTo pos (starEach es env)).any (·.1)) = false
    rw [star_none h.2]; rfl
end MP

set_option maxHeartbeats 1000000
/-! MiniPy: expressions keep what the evaluator says. -/
namespace MP
open PySem PySem.Spec PyProof.Rows L2

def PostE (ob : Ob) (K : PySem.W.Frag) (g : Gh) (H : Hp) (d : D) (Q : VK) : Prop := ∀ v g' H', Ext ob g H g' H' → RepR K g' H' v d → Q v H'
def PostL (ob : Ob) (K : PySem.W.Frag) (g : Gh) (H : Hp) (ds : List D) (Q : VK) : Prop :=
  ∀ p xs g' H', Ext ob g H g' H' → H p = none → H' p = some (.lst xs) → g'.F p = none → g'.B p = none → RepL K g' xs ds → Q (.ref p) H'
def PostA (ob : Ob) (K : PySem.W.Frag) (g : Gh) (H : Hp) (ds : List D) (Q : List V → Hp → Prop) : Prop := ∀ vs g' H', Ext ob g H g' H' → RepL K g' vs ds → Q vs H'
abbrev RepRL (K : PySem.W.Frag) (g : Gh) (H : Hp) : List V → List D → Prop := Paired (RepR K g H)
def PostP (ob : Ob) (K : PySem.W.Frag) (g : Gh) (H : Hp) (ds : List D) (Q : List V → Hp → Prop) : Prop := ∀ vs g' H', Ext ob g H g' H' → RepRL K g' H' vs ds → Q vs H'
def PostB (ob : Ob) (g : Gh) (H : Hp) (b : Bool) (Q : Bool → Hp → Prop) : Prop := ∀ g' H', Ext ob g H g' H' → Q b H'
section
variable {ob : Ob} {K : PySem.W.Frag} {g g1 : Gh} {H H1 : Hp} {d : D} {ds : List D}
theorem PostE.ext {Q : VK} (p : PostE ob K g H d Q) (x : Ext ob g H g1 H1) : PostE ob K g1 H1 d Q := fun v g' H' y r => p v g' H' (x.trans y) r
theorem PostL.ext {Q : VK} (p : PostL ob K g H ds Q) (x : Ext ob g H g1 H1) : PostL ob K g1 H1 ds Q := fun q xs g' H' y a b c e r => p q xs g' H' (x.trans y) (x.back a) b c e r
theorem PostE.frz {Q : VK} (p : PostE ob K g H (.lst ds) Q) : PostL ob K g H ds Q := fun q xs g' H' y a b c e r => by
  have f := y.freeze a b c e
  refine p _ _ _ f ?_
  show Rep K _ _ _
  exact .lst (.of put_F) (RepL.mono (Gh.put_le c) _ _ r)
/-- a new list where nothing else came in between -/
theorem PostL.new {Q : VK} (p : PostL ob K g H ds Q) (w : WOk ob g H) {xs : List V} (r : RepL K g xs ds) : ∀ q, H q = none → Q (.ref q) (upd H q (.lst xs)) := fun q hq =>
  p q xs g _ (Ext.own w hq) hq upd_same (w.fresh hq).1 (w.fresh hq).2 r
theorem PostE.newTup {Q : VK} (p : PostE ob K g H (.tup ds) Q) (w : WOk ob g H) {xs : List V} (r : RepL K g xs ds) : ∀ q, H q = none → Q (.ref q) (upd H q (.tup xs)) := fun q hq => by
  refine p _ _ _ (Ext.new w hq) ?_
  show Rep K _ _ _
  exact .tup (.of put_F) (RepL.mono (Gh.put_le (w.fresh hq).1) _ _ r)
theorem PostE.now {Q : VK} (p : PostE ob K g H d Q) (w : WOk ob g H) {v : V} (r : RepR K g H v d) : Q v H := p v g H (Ext.refl w) r
theorem PostB.ext {b : Bool} {Q : Bool → Hp → Prop} (p : PostB ob g H b Q) (x : Ext ob g H g1 H1) : PostB ob g1 H1 b Q := fun g' H' y => p g' H' (x.trans y)
theorem PostB.now {b : Bool} {Q : Bool → Hp → Prop} (p : PostB ob g H b Q) (w : WOk ob g H) : Q b H := p g H (Ext.refl w)
end

section
variable (ob : Ob) (Φ : Nat → List D → Option D)
def SndN (c : E) : Prop := ∀ {X : Cx} {Γ : Gam} {k : Nat} {ex : Expr} {g : Gh} {H : Hp} {σ : L2.St} {ρ : Rho} {d : D}, Here ob Φ X Γ k g H σ ρ → mE Γ c ex = true → evE Φ c ρ = some d → ∀ Q, PostE ob X.K g H d Q → wpE X ex σ H Q
def SndF (c : E) : Prop := ∀ {X : Cx} {Γ : Gam} {k : Nat} {ex : Expr} {g : Gh} {H : Hp} {σ : L2.St} {ρ : Rho} {ds : List D}, Here ob Φ X Γ k g H σ ρ → mE Γ c ex = true → evE Φ c ρ = some (.lst ds) → ∀ Q, PostL ob X.K g H ds Q → wpE X ex σ H Q
/-- both: of a form that makes a new list, the list is nobody else's -/
def SndE (c : E) : Prop := SndN ob Φ c ∧ (fresh c = true → SndF ob Φ c)
def SndEs (cs : Es) : Prop := ∀ {X : Cx} {Γ : Gam} {k : Nat} {es : List Expr} {g : Gh} {H : Hp} {σ : L2.St} {ρ : Rho} {ds : List D}, Here ob Φ X Γ k g H σ ρ → mEs Γ cs es = true → evEs Φ cs ρ = some ds → ∀ Q, PostA ob X.K g H ds Q → wpA X es σ H Q
def SndPs (cs : Es) : Prop := ∀ {X : Cx} {Γ : Gam} {k : Nat} {es : List Expr} {g : Gh} {H : Hp} {σ : L2.St} {ρ : Rho} {ds : List D}, Here ob Φ X Γ k g H σ ρ → mEs Γ cs es = true → evPs Φ cs ρ = some ds → ∀ Q, PostP ob X.K g H ds Q → wpA X es σ H Q
def SndT (c : T) : Prop := ∀ {X : Cx} {Γ : Gam} {k : Nat} {ex : Expr} {g : Gh} {H : Hp} {σ : L2.St} {ρ : Rho} {b : Bool}, Here ob Φ X Γ k g H σ ρ → mT Γ c ex = true → evT Φ c ρ = some b → ∀ Q, PostB ob g H b Q → wpT X ex σ H Q
end

section
variable {ob : Ob} {Φ : Nat → List D → Option D} {X : Cx} {Γ : Gam} {k : Nat} {g : Gh} {H : Hp} {σ : L2.St} {ρ : Rho}
theorem pure_some {e : D} {o : Option D} (h : o.bind pure? = some e) : o = some e ∧ isOwn e = false := by
  cases o with
  | none => cases h
  | some d =>
    cases d <;> first | (cases h; exact ⟨rfl, rfl⟩) | cases h
theorem two {a b : E} {x y : Expr} {da db : D} (ha : SndN ob Φ a) (hb : SndN ob Φ b) (h : Here ob Φ X Γ k g H σ ρ) (ma : mE Γ a x = true) (mb : mE Γ b y = true) (ea : evE Φ a ρ = some da) (eb : evE Φ b ρ = some db) {R : V → V → Hp → Prop}
    (post : ∀ va vb g' H', Ext ob g H g' H' → RepR X.K g' H' va da → RepR X.K g' H' vb db → R va vb H') : wpE X x σ H (fun v H1 => wpE X y σ H1 (fun u H2 => R v u H2)) :=
  ha h ma ea _ fun v g1 H1 x1 r1 => hb (h.ext x1) mb eb _ fun u g2 H2 x2 r2 => post v u g2 H2 (x1.trans x2) (r1.ext x2) r2

/-! ### names and constants -/
theorem snd_slot (i : Nat) : SndE ob Φ (.slot i) := by
  refine ⟨fun {X Γ k ex g H σ ρ d} h m e Q q => ?_, fun z => by cases z⟩
  cases ex <;> simp only [mE, Bool.false_eq_true] at m
  rename_i x pos
  simp only [slotB, nameAt, Bool.and_eq_true, decide_eq_true_eq, Bool.not_eq_true'] at m
  obtain ⟨⟨⟨m1, m2⟩, m3⟩, m4⟩ := m
  have hp : PE X (.Name x pos) (tVar i) := pe_var (by rw [h.c.N]; exact m1) (by rw [h.c.sc]; exact vis_of m2) m3 m4
  refine hp.wp ?_
  simp only [evE] at e
  split at e
  · rename_i d' e'
    cases e
    obtain ⟨v, h1, h2⟩ := h.s.at' _ _ e'
    exact ⟨v, h1, q.now h.w (.of h2)⟩
  · rename_i ds' e'
    cases e
    obtain ⟨a, xs, h1, h2, h3, h4, h5⟩ := h.s.at' _ _ e'
    exact ⟨_, h1, q.now h.w ⟨a, xs, rfl, h2, h3, h4, h5⟩⟩
  · cases e
theorem snd_int (i : Int) : SndE ob Φ (.cint i) := by
  refine ⟨fun {X Γ k ex g H σ ρ d} h m e Q q => ?_, fun z => by cases z⟩
  cases ex with
  | Constant c kk pos =>
    cases c with
    | int j =>
      have m' : decide (i = j) = true := m
      obtain rfl := of_decide_eq_true m'
      cases (show some (D.int i) = some d from e)
      exact PE.wp pe_int (q.now h.w (.of (.int _)))
    | _ => cases m
  | _ => cases m
theorem snd_bl (b : Bool) : SndE ob Φ (.cbl b) := by
  refine ⟨fun {X Γ k ex g H σ ρ d} h m e Q q => ?_, fun z => by cases z⟩
  cases ex with
  | Constant c kk pos =>
    cases c with
    | bool j =>
      have m' : decide (b = j) = true := m
      obtain rfl := of_decide_eq_true m'
      cases (show some (D.bl b) = some d from e)
      exact PE.wp pe_bl (q.now h.w (.of (.bl _)))
    | _ => cases m
  | _ => cases m
theorem snd_non : SndE ob Φ .cnon := by
  refine ⟨fun {X Γ k ex g H σ ρ d} h m e Q q => ?_, fun z => by cases z⟩
  cases ex with
  | Constant c kk pos =>
    cases c with
    | none =>
      cases (show some D.non = some d from e)
      exact PE.wp pe_non (q.now h.w (.of .non))
    | _ => cases m
  | _ => cases m
theorem snd_str (x : Str) : SndE ob Φ (.cstr x) := by
  refine ⟨fun {X Γ k ex g H σ ρ d} h m e Q q => ?_, fun z => by cases z⟩
  cases ex with
  | Constant c kk pos =>
    cases c with
    | str y =>
      have m' : decide (x = y) = true := m
      obtain rfl := of_decide_eq_true m'
      cases (show some (D.str x) = some d from e)
      exact PE.wp pe_str (q.now h.w (.of (.str _)))
    | _ => cases m
  | _ => cases m

/-! ### operators -/
def opO : BOp → Operator
  | .add => .Add | .sub => .Sub | .mul => .Mult | .fdiv => .FloorDiv | .mod => .Mod | .pow => .Pow
theorem opB_eq {op : BOp} {o : Operator} (h : opB op o = true) : o = opO op := by
  cases op <;> cases o <;> first | rfl | cases h
/-- // by any divisor but 0, below 2 ^ 9000 -/
theorem op_fdivZ : OpR X (binaryOp .FloorDiv) (rI (fun _ j => j ≠ 0 ∧ j.natAbs.log2 < 9000) fun i j => .int (i.fdiv j)) := opI fun i j _ _ _ _ _ hc q => floordiv_int hc.1 q (.inl (PyProof.noPylong_of_log2 hc.2))
theorem lst_exact {pins : List (Addr × Obj)} {σ : L2.St} {H : Hp} {s : Shared} {a : Addr} {xs : List V} (I : Inv X pins σ H s) (h : Rd H a (.lst xs)) :
    xs.length ≤ sizeLine ∧ ∃ (its : List Value) (n : Nat), Vals xs its ∧ s.heap.get? a = some { cls := .type "list", data := .seq its.toArray n } := by
  obtain ⟨z, its, n, r, e⟩ := h.ok I.hok
  exact ⟨z, its, n, r, e⟩
def rCatR (K : PySem.W.Frag) : R2 := fun x y H Q => ∃ l b xs zs, x = .ref l ∧ y = .ref b ∧ SqL K H l xs ∧ SqL K H b zs ∧ xs.length + zs.length ≤ sizeLine ∧ ∀ p, H p = none → Q (.ref p) (upd H p (.lst (xs ++ zs)))
theorem op_catR : OpR X (binaryOp .Add) (rCatR X.K) := by
  intro pins s σ H x y v u Q I rx ry h
  obtain ⟨l, b, xs, zs, rfl, rfl, hH, hB, hz, q⟩ := h
  cases rx
  cases ry
  obtain ⟨its, r, ⟨⟨cls, dd, data, sl⟩, n, e, hc, hd, hdt⟩, _⟩ := I.list hH
  obtain ⟨its2, r2, ⟨⟨cls2, dd2, data2, sl2⟩, n2, e2, hc2, hd2, hdt2⟩, _⟩ := I.list hB
  simp only at hc hd hdt hc2 hd2 hdt2
  subst hc hd hdt hc2 hd2 hdt2
  have hl := r.length
  have hl2 := r2.length
  refine concat_meets ⟨_, e, rfl⟩ ⟨_, e2, rfl⟩ noFill_list_add seq_list_add PySem.F.slot_list_add PySem.F.entry_list_add (PySem.F.args_list_add_2 _ _) (list_addW l b its.toArray its2.toArray n n2 none none sl sl2 (by rw [List.size_toArray, List.size_toArray]; omega)) ⟨e, e2, ?_⟩
  have ea : its.toArray ++ its2.toArray = (its ++ its2).toArray := by simp
  rw [ea]
  exact ⟨.ref _, _, I.lnew (t' := s.toks) (r.append r2) (by rw [List.length_append]; omega), rfl, q _ I.fresh⟩
theorem line_eq : line = sizeLine := by rw [sizeLine_eq]; rfl
/-- an operation by values -/
def OpV (ob : Ob) (X : Cx) (f : Value → Value → Sem Value) (x y d : D) : Prop := ∃ r, OpR X f r ∧ ∀ vx vy g H Q, WOk ob g H → RepR X.K g H vx x → RepR X.K g H vy y → PostE ob X.K g H d Q → r vx vy H Q
theorem bin_op {op : BOp} {x y d : D} (e : binD op x y = some d) : OpV ob X (binaryOp (opO op)) x y d := by
  unfold binD at e
  split at e
  · cases e
    refine ⟨_, op_add, fun vx vy g H Q w rx ry q => ?_⟩
    cases (show Rep _ _ _ _ from rx); cases (show Rep _ _ _ _ from ry)
    exact ⟨_, _, rfl, rfl, q.now w (.of (.int _))⟩
  · cases e
    refine ⟨_, op_sub, fun vx vy g H Q w rx ry q => ?_⟩
    cases (show Rep _ _ _ _ from rx); cases (show Rep _ _ _ _ from ry)
    exact ⟨_, _, rfl, rfl, q.now w (.of (.int _))⟩
  · split at e
    · rename_i hm
      cases e
      refine ⟨_, op_mulW, fun vx vy g H Q w rx ry q => ?_⟩
      cases (show Rep _ _ _ _ from rx); cases (show Rep _ _ _ _ from ry)
      exact ⟨_, _, rfl, rfl, (of_decide_eq_true hm : _ < 1000000), q.now w (.of (.int _))⟩
    · cases e
  · split at e
    · cases e
    · rename_i hj
      split at e
      · rename_i hm
        cases e
        refine ⟨_, op_fdivZ, fun vx vy g H Q w rx ry q => ?_⟩
        cases (show Rep _ _ _ _ from rx); cases (show Rep _ _ _ _ from ry)
        exact ⟨_, _, rfl, rfl, ⟨hj, of_decide_eq_true hm⟩, q.now w (.of (.int _))⟩
      · cases e
  · split at e
    · cases e
    · rename_i hj
      cases e
      refine ⟨_, op_modN, fun vx vy g H Q w rx ry q => ?_⟩
      cases (show Rep _ _ _ _ from rx); cases (show Rep _ _ _ _ from ry)
      exact ⟨_, _, rfl, rfl, hj, q.now w (.of (.int _))⟩
  · split at e
    · rename_i hm
      simp only [Bool.and_eq_true, decide_eq_true_eq] at hm
      cases e
      refine ⟨_, op_pow, fun vx vy g H Q w rx ry q => ?_⟩
      cases (show Rep _ _ _ _ from rx); cases (show Rep _ _ _ _ from ry)
      exact ⟨_, _, rfl, rfl, ⟨hm.1.1, hm.1.2, hm.2⟩, q.now w (.of (.int _))⟩
    · cases e
  · split at e
    · rename_i hm
      cases e
      refine ⟨_, op_add_str, fun vx vy g H Q w rx ry q => ?_⟩
      cases (show Rep _ _ _ _ from rx); cases (show Rep _ _ _ _ from ry)
      exact ⟨_, _, rfl, rfl, by rw [← line_eq]; exact of_decide_eq_true hm, q.now w (.of (.str _))⟩
    · cases e
  · split at e
    · rename_i hm
      cases e
      refine ⟨_, op_catT, fun vx vy g H Q w rx ry q => ?_⟩
      obtain ⟨a, xs, rfl, hs, hl⟩ := rx.tuple w
      obtain ⟨b, ys, rfl, hs2, hl2⟩ := ry.tuple w
      have hm' := of_decide_eq_true hm
      refine ⟨a, b, xs, ys, rfl, rfl, hs, hs2, ?_, ?_, ?_, ?_⟩
      · intro z
        subst z
        have := hl.len
        simp at this
      · rw [hl.len, hl2.len, ← line_eq]; exact hm'
      · intro z
        subst z
        cases hl2
        rw [List.append_nil] at q
        exact q.now w rx
      · intro _ p hp
        exact q.newTup w (hl.append hl2) p hp
    · cases e
  · cases e
end
end MP

set_option maxHeartbeats 1000000
/-! MiniPy: expressions, further. -/
namespace MP
open PySem PySem.Spec PyProof.Rows L2
section
variable {ob : Ob} {Φ : Nat → List D → Option D} {X : Cx} {Γ : Gam} {k : Nat} {g : Gh} {H : Hp} {σ : L2.St} {ρ : Rho}
theorem and2 {a b : Bool} (h : (a && b) = true) : a = true ∧ b = true := by simpa using h

theorem binD_lst {op : BOp} {x y : D} {ds : List D} (e : binD op x y = some (.lst ds)) : False := by
  unfold binD at e
  split at e <;> (try split at e) <;> (try split at e) <;> simp at e
theorem snd_bin {op : BOp} {a b : E} (ha : SndN ob Φ a) (hb : SndN ob Φ b) : SndE ob Φ (.bin op a b) := by
  -- what is asked of the text
  have txt : ∀ {Γ : Gam} {ex : Expr}, mE Γ (.bin op a b) ex = true → ∃ x y p, ex = .BinOp x (opO op) y p ∧ mE Γ a x = true ∧ mE Γ b y = true := by
    intro Γ ex m
    cases ex with
    | BinOp x o y p =>
      have m' : (opB op o && mE Γ a x && mE Γ b y) = true := m
      obtain ⟨m1, m3⟩ := and2 m'
      obtain ⟨m1, m2⟩ := and2 m1
      obtain rfl := opB_eq m1
      exact ⟨x, y, p, rfl, m2, m3⟩
    | _ => cases m
  have cat : ∀ {X : Cx} {Γ : Gam} {k : Nat} {ex : Expr} {g : Gh} {H : Hp} {σ : L2.St} {ρ : Rho} {da db : D} {ds : List D}, Here ob Φ X Γ k g H σ ρ → mE Γ (.bin op a b) ex = true → evE Φ a ρ = some da → evE Φ b ρ = some db → op = .add → catD da db = some ds →
      ∀ Q, PostL ob X.K g H ds Q → wpE X ex σ H Q := by
    intro X Γ k ex g H σ ρ da db ds h m ea eb hop ec Q q
    obtain ⟨x, y, p, rfl, ma, mb⟩ := txt m
    subst hop
    refine (pe_op op_catR pe_wp pe_wp).wp (two ha hb h ma mb ea eb fun va vb g' H' xt ra rb => ?_)
    unfold catD at ec
    split at ec
    · rename_i xs ys e1 e2
      split at ec
      · rename_i hl
        cases ec
        obtain ⟨l, vs, rfl, r1, l1⟩ := ra.list xt.ok e1
        obtain ⟨l', vs', rfl, r2, l2⟩ := rb.list xt.ok e2
        refine ⟨l, l', vs, vs', rfl, rfl, r1, r2, ?_, fun p hp => (q.ext xt).new xt.ok (l1.append l2) p hp⟩
        rw [l1.len, l2.len, ← line_eq]
        exact of_decide_eq_true hl
      · cases ec
    · cases ec
  have ev : ∀ {ρ : Rho} {d : D}, evE Φ (.bin op a b) ρ = some d → ∃ da db, evE Φ a ρ = some da ∧ evE Φ b ρ = some db ∧ ((op = .add ∧ ∃ ds, catD da db = some ds ∧ d = .lst ds) ∨ binD op da db = some d) := by
    intro ρ d e
    simp only [evE] at e
    split at e
    · rename_i x y ea eb
      refine ⟨x, y, ea, eb, ?_⟩
      split at e
      · rename_i ds ec
        cases e
        exact .inl ⟨rfl, ds, ec, rfl⟩
      · exact .inr e
    · cases e
  refine ⟨fun {X Γ k ex g H σ ρ d} h m e Q q => ?_, fun _ => fun {X Γ k ex g H σ ρ ds} h m e Q q => ?_⟩
  · obtain ⟨da, db, ea, eb, ⟨hop, ds, ec, rfl⟩ | e2⟩ := ev e
    · exact cat h m ea eb hop ec Q q.frz
    · obtain ⟨x, y, p, rfl, ma, mb⟩ := txt m
      obtain ⟨r, hr, hq⟩ := bin_op (ob := ob) (X := X) e2
      exact (pe_op hr pe_wp pe_wp).wp (two ha hb h ma mb ea eb fun va vb g' H' xt ra rb => hq va vb g' H' Q xt.ok ra rb (q.ext xt))
  · obtain ⟨da, db, ea, eb, ⟨hop, ds', ec, e'⟩ | e2⟩ := ev e
    · cases e'
      exact cat h m ea eb hop ec Q q
    · exact (binD_lst e2).elim
theorem snd_neg {a : E} (ha : SndN ob Φ a) : SndE ob Φ (.neg a) := by
  refine ⟨fun {X Γ k ex g H σ ρ d} h m e Q q => ?_, fun z => by cases z⟩
  cases ex with
  | UnaryOp o x p =>
    cases o with
    | USub =>
      simp only [evE] at e
      split at e
      · rename_i i ea
        cases e
        refine (pe_un un_neg pe_wp).wp (ha h m ea _ fun v g1 H1 x1 r1 => ?_)
        cases (show Rep _ _ _ _ from r1)
        exact ⟨_, rfl, (q.ext x1).now x1.ok (.of (.int _))⟩
      · cases e
    | _ => cases m
  | _ => cases m

/-! ### comparisons -/
def copO : COp → CmpOp
  | .lt => .Lt | .le => .LtE | .gt => .Gt | .ge => .GtE | .eq => .Eq | .ne => .NotEq | .is => .Is | .isnot => .IsNot
theorem copB_eq {op : COp} {o : CmpOp} (h : copB op o = true) : o = copO op := by
  cases op <;> cases o <;> first | rfl | cases h
theorem cop_mark (op : COp) (e : Expr) : behindInMarks (copO op) e = false := by
  cases op <;> exact nomark _
/-- a comparison by values: PostB wanted of the bool -/
def CmpV (ob : Ob) (X : Cx) (f : Value → Value → Sem Value) (x y : D) (b : Bool) : Prop := ∃ r, OpR X f r ∧ ∀ vx vy g H (Q : VK), WOk ob g H → RepR X.K g H vx x → RepR X.K g H vy y → Q (.bl b) H → r vx vy H Q
def isNonB : D → Bool | .non => true | _ => false
theorem isN_rep {K : PySem.W.Frag} {g : Gh} {H : Hp} {v : V} {x : D} (r : RepR K g H v x) (n : isOwn x = false) : decide (v = .non) = isNonB x := by
  have r' := r.pure n
  cases r' <;> rfl
theorem cmp_op {op : COp} {x y : D} {b : Bool} (hu : X.A.units + 64 < cLine) (e : cmpD op x y = some b) : CmpV ob X (compareOp (copO op)) x y b := by
  unfold cmpD at e
  split at e
  · -- eq
    unfold eqD at e
    split at e
    · rename_i p1 p2 e1 e2
      split at e
      · rename_i hs
        cases e
        simp only [Bool.and_eq_true] at hs
        exact ⟨_, op_eqD hu, fun vx vy g H Q w rx ry q => ⟨p1, p2, dp_ofR w rx e1, dp_ofR w ry e2, hs.1, hs.2, q⟩⟩
      · cases e
    · cases e
  · -- ne
    unfold eqD at e
    split at e
    · rename_i p1 p2 e1 e2
      split at e
      · rename_i hs
        cases e
        simp only [Bool.and_eq_true] at hs
        exact ⟨_, op_neD hu, fun vx vy g H Q w rx ry q => ⟨p1, p2, dp_ofR w rx e1, dp_ofR w ry e2, hs.1, hs.2, q⟩⟩
      · cases e
    · cases e
  · -- is None
    split at e
    · refine ⟨_, op_isN, fun vx vy g H Q w rx ry q => ?_⟩
      cases (show Rep _ _ _ _ from ry)
      have n : isOwn x = false := by cases x <;> first | rfl | cases e
      refine ⟨rfl, ?_⟩
      rw [isN_rep rx n]
      have : isNonB x = b := by cases x <;> first | (cases e; rfl) | cases e
      rw [this]
      exact q
    · cases e
  · -- is not None
    split at e
    · refine ⟨_, op_notN, fun vx vy g H Q w rx ry q => ?_⟩
      cases (show Rep _ _ _ _ from ry)
      have n : isOwn x = false := by cases x <;> first | rfl | cases e
      refine ⟨rfl, ?_⟩
      rw [isN_rep rx n]
      have : (!isNonB x) = b := by cases x <;> first | (cases e; rfl) | cases e
      rw [this]
      exact q
    · cases e
  · split at e
    · cases e
      refine ⟨_, op_lt, fun vx vy g H Q w rx ry q => ?_⟩
      cases (show Rep _ _ _ _ from rx); cases (show Rep _ _ _ _ from ry)
      exact ⟨_, _, rfl, rfl, q⟩
    · cases e
  · split at e
    · cases e
      refine ⟨_, op_le, fun vx vy g H Q w rx ry q => ?_⟩
      cases (show Rep _ _ _ _ from rx); cases (show Rep _ _ _ _ from ry)
      exact ⟨_, _, rfl, rfl, q⟩
    · cases e
  · split at e
    · cases e
      refine ⟨_, op_gt, fun vx vy g H Q w rx ry q => ?_⟩
      cases (show Rep _ _ _ _ from rx); cases (show Rep _ _ _ _ from ry)
      exact ⟨_, _, rfl, rfl, q⟩
    · cases e
  · split at e
    · cases e
      refine ⟨_, op_ge, fun vx vy g H Q w rx ry q => ?_⟩
      cases (show Rep _ _ _ _ from rx); cases (show Rep _ _ _ _ from ry)
      exact ⟨_, _, rfl, rfl, q⟩
    · cases e
theorem snd_cmp {op : COp} {a b : E} (ha : SndN ob Φ a) (hb : SndN ob Φ b) : SndE ob Φ (.cmp op a b) := by
  refine ⟨fun {X Γ k ex g H σ ρ d} h m e Q q => ?_, fun z => by cases z⟩
  have txt : ∃ x y p, ex = .Compare x [copO op] [y] p ∧ mE Γ a x = true ∧ mE Γ b y = true := by
    cases ex with
    | Compare x os ys p =>
      match os, ys, m with
      | [o], [y], m =>
        have m' : (copB op o && mE Γ a x && mE Γ b y) = true := m
        obtain ⟨m1, m3⟩ := and2 m'
        obtain ⟨m1, m2⟩ := and2 m1
        obtain rfl := copB_eq m1
        exact ⟨x, y, p, rfl, m2, m3⟩
    | _ => cases m
  obtain ⟨x, y, p, rfl, ma, mb⟩ := txt
  simp only [evE] at e
  split at e
  · rename_i da db ea eb
    cases ec : cmpD op da db with
    | none => rw [ec] at e; cases e
    | some c =>
      rw [ec] at e
      cases e
      obtain ⟨r, hr, hq⟩ := cmp_op (ob := ob) (X := X) h.f.room.units ec
      exact (pe_cmpR hr pe_wp pe_wp (cop_mark _ _)).wp (two ha hb h ma mb ea eb fun va vb g' H' xt ra rb => hq va vb g' H' Q xt.ok ra rb ((q.ext xt).now xt.ok (.of (.bl _))))
  · cases e
theorem snd_tcmp {op : COp} {a b : E} (ha : SndN ob Φ a) (hb : SndN ob Φ b) : SndT ob Φ (.cmp op a b) := by
  refine fun {X Γ k ex g H σ ρ d} h m e Q q => ?_
  have txt : ∃ x y p, ex = .Compare x [copO op] [y] p ∧ mE Γ a x = true ∧ mE Γ b y = true := by
    cases ex with
    | Compare x os ys p =>
      match os, ys, m with
      | [o], [y], m =>
        have m' : (copB op o && mE Γ a x && mE Γ b y) = true := m
        obtain ⟨m1, m3⟩ := and2 m'
        obtain ⟨m1, m2⟩ := and2 m1
        obtain rfl := copB_eq m1
        exact ⟨x, y, p, rfl, m2, m3⟩
    | _ => cases m
  obtain ⟨x, y, p, rfl, ma, mb⟩ := txt
  simp only [evT] at e
  split at e
  · rename_i da db ea eb
    obtain ⟨r, hr, hq⟩ := cmp_op (ob := ob) (X := X) h.f.room.units e
    exact (pt_cmpR hr pe_wp pe_wp (cop_mark _ _)).wp (two ha hb h ma mb ea eb fun va vb g' H' xt ra rb => hq va vb g' H' _ xt.ok ra rb ⟨_, rfl, (q.ext xt).now xt.ok⟩)
  · cases e
theorem last_mark (op op' : COp) (b c : Expr) : lastMarks [copO op, copO op'] [b, c] = false := by
  show behindInMarks (copO op') c = false
  exact cop_mark _ _
theorem snd_chain {op op' : COp} {a b c : E} (ha : SndN ob Φ a) (hb : SndN ob Φ b) (hc : SndN ob Φ c) : SndT ob Φ (.chain op op' a b c) := by
  refine fun {X Γ k ex g H σ ρ d} h m e Q q => ?_
  have txt : ∃ x y z p, ex = .Compare x [copO op, copO op'] [y, z] p ∧ mE Γ a x = true ∧ mE Γ b y = true ∧ mE Γ c z = true := by
    cases ex with
    | Compare x os ys p =>
      match os, ys, m with
      | [o, o'], [y, z], m =>
        have m' : (copB op o && copB op' o' && mE Γ a x && mE Γ b y && mE Γ c z) = true := m
        obtain ⟨m1, m5⟩ := and2 m'
        obtain ⟨m1, m4⟩ := and2 m1
        obtain ⟨m1, m3⟩ := and2 m1
        obtain ⟨m1, m2⟩ := and2 m1
        obtain rfl := copB_eq m1
        obtain rfl := copB_eq m2
        exact ⟨x, y, z, p, rfl, m3, m4, m5⟩
    | _ => cases m
  obtain ⟨x, y, z, p, rfl, ma, mb, mc⟩ := txt
  simp only [evT] at e
  split at e
  · rename_i da db ea eb
    split at e
    · rename_i e1 e2
      split at e
      · rename_i dc ec
        obtain ⟨r, hr, hq⟩ := cmp_op (ob := ob) (X := X) h.f.room.units e2
        obtain ⟨r', hr', hq'⟩ := cmp_op (ob := ob) (X := X) h.f.room.units e
        refine (pt_chain hr hr' pe_wp pe_wp pe_wp (last_mark op op' _ _)).wp ?_
        refine two ha hb h ma mb ea eb fun va vb g' H' xt ra rb => hq va vb g' H' _ xt.ok ra rb ⟨_, rfl, ?_⟩
        rw [if_pos rfl]
        exact hc (h.ext xt) mc ec _ fun vc g2 H2 x2 rc => hq' vb vc g2 H2 _ x2.ok (rb.ext x2) rc ⟨_, rfl, ((q.ext xt).ext x2).now x2.ok⟩
      · cases e
    · rename_i e1 e2
      cases e
      obtain ⟨r, hr, hq⟩ := cmp_op (ob := ob) (X := X) h.f.room.units e2
      obtain ⟨r', hr', _⟩ : ∃ r, OpR X (compareOp (copO op')) r ∧ True := ⟨fun _ _ _ _ => False, fun _ _ _ _ _ _ _ _ _ _ _ _ z => z.elim, trivial⟩
      refine (pt_chain hr hr' pe_wp pe_wp pe_wp (last_mark op op' _ _)).wp ?_
      refine two ha hb h ma mb ea eb fun va vb g' H' xt ra rb => hq va vb g' H' _ xt.ok ra rb ⟨_, rfl, ?_⟩
      rw [if_neg (by decide)]
      exact ⟨_, rfl, (q.ext xt).now xt.ok⟩
    · cases e
  · cases e
/-! ### truth -/
theorem tru_v {g : Gh} {H : Hp} {v : V} {d : D} {b : Bool} (w : WOk ob g H) (r : RepR X.K g H v d) (e : truD d = some b) : TruV X.K v H b := by
  cases d with
  | non => cases (show Rep _ _ _ _ from r); cases e; exact rfl
  | bl b => cases (show Rep _ _ _ _ from r); cases e; exact rfl
  | int i => cases (show Rep _ _ _ _ from r); cases e; exact rfl
  | str x =>
    cases (show Rep _ _ _ _ from r)
    have e' : (if decide (x.length ≤ line) = true then some ((x.length : Int) != 0) else none) = some b := e
    split at e'
    · rename_i hl
      cases e'
      exact ⟨by rw [← line_eq]; exact of_decide_eq_true hl, rfl⟩
    · cases e'
  | lst ds =>
    cases e
    obtain ⟨a, xs, rfl, h1, hl⟩ := r.list w rfl
    refine .inl ⟨xs, h1, ?_⟩
    have := hl.len
    cases ds <;> cases xs <;> first | rfl | cases this
  | own ds =>
    cases e
    obtain ⟨a, xs, rfl, h1, hl⟩ := r.list w rfl
    refine .inl ⟨xs, h1, ?_⟩
    have := hl.len
    cases ds <;> cases xs <;> first | rfl | cases this
  | tup ds =>
    cases e
    obtain ⟨a, xs, rfl, h1, hl⟩ := r.tuple w
    refine .inr (.inl ⟨xs, h1, ?_⟩)
    have := hl.len
    cases ds <;> cases xs <;> first | rfl | cases this
  | obj t d => cases e
theorem snd_tru {a : E} (ha : SndN ob Φ a) : SndT ob Φ (.tru a) := by
  refine fun {X Γ k ex g H σ ρ d} h m e Q q => ?_
  have m' : (plainT ex && mE Γ a ex) = true := by
    cases ex <;> exact m
  obtain ⟨m1, m2⟩ := and2 m'
  simp only [evT] at e
  split at e
  · rename_i d' ea
    refine (pt_truth pe_wp (fun whole => ?_)).wp (ha h m2 ea _ fun v g1 H1 x1 r1 => ⟨_, tru_v x1.ok r1 e, (q.ext x1).now x1.ok⟩)
    cases ex <;> first | rfl | cases m1
  · cases e
theorem snd_tnot {t : T} (ht : SndT ob Φ t) : SndT ob Φ (.not t) := by
  refine fun {X Γ k ex g H σ ρ b} h m e Q q => ?_
  cases ex with
  | UnaryOp o x p =>
    cases o with
    | Not =>
      simp only [evT] at e
      cases et : evT Φ t ρ with
      | none => rw [et] at e; cases e
      | some c =>
        rw [et] at e
        cases e
        exact (pt_not pt_wp).wp (ht h m et (fun c H1 => Q (!c) H1) fun g1 H1 x1 => q g1 H1 x1)
    | _ => cases m
  | _ => cases m
def SndTsA (ob : Ob) (Φ : Nat → List D → Option D) (ts : Ts) : Prop := ∀ {X : Cx} {Γ : Gam} {k : Nat} {xs : List Expr} {p : Pos} {g : Gh} {H : Hp} {σ : L2.St} {ρ : Rho} {b : Bool}, Here ob Φ X Γ k g H σ ρ → mTs Γ ts xs = true → xs ≠ [] → evAll Φ ts ρ = some b → ∀ Q, PostB ob g H b Q → wpW X (.BoolOp .And xs p) σ H Q
def SndTsO (ob : Ob) (Φ : Nat → List D → Option D) (ts : Ts) : Prop := ∀ {X : Cx} {Γ : Gam} {k : Nat} {xs : List Expr} {p : Pos} {g : Gh} {H : Hp} {σ : L2.St} {ρ : Rho} {b : Bool}, Here ob Φ X Γ k g H σ ρ → mTs Γ ts xs = true → xs ≠ [] → evAny Φ ts ρ = some b → ∀ Q, PostB ob g H b Q → wpW X (.BoolOp .Or xs p) σ H Q
theorem snd_all_nil : SndTsA ob Φ .nil := by
  refine fun {X Γ k xs p g H σ ρ b} h m n e Q q => ?_
  cases xs with
  | nil => exact absurd rfl n
  | cons x xs => cases m
theorem snd_any_nil : SndTsO ob Φ .nil := by
  refine fun {X Γ k xs p g H σ ρ b} h m n e Q q => ?_
  cases xs with
  | nil => exact absurd rfl n
  | cons x xs => cases m
theorem snd_all_cons {t : T} {ts : Ts} (ht : SndT ob Φ t) (hs : SndTsA ob Φ ts) : SndTsA ob Φ (.cons t ts) := by
  refine fun {X Γ k xs p g H σ ρ b} h m n e Q q => ?_
  cases xs with
  | nil => exact absurd rfl n
  | cons x xs =>
    obtain ⟨m1, m2⟩ := and2 (show (mT Γ t x && mTs Γ ts xs) = true from m)
    simp only [evAll] at e
    cases xs with
    | nil =>
      have : ts = .nil := by cases ts <;> first | rfl | cases m2
      subst this
      refine (pw_and1 pt_wp).wp (ht h m1 (b := b) ?_ Q q)
      revert e
      cases evT Φ t ρ with
      | none => intro e; cases e
      | some c => cases c <;> exact fun e => e
    | cons y ys =>
      refine (pw_and pt_wp pw_wp).wp ?_
      cases et : evT Φ t ρ with
      | none => rw [et] at e; cases e
      | some c =>
        rw [et] at e
        cases c with
        | true =>
          refine ht h m1 et _ fun g1 H1 x1 => ?_
          show (if true = true then _ else _)
          rw [if_pos rfl]
          exact hs (h.ext x1) m2 (by simp) e Q (q.ext x1)
        | false =>
          cases e
          refine ht h m1 et _ fun g1 H1 x1 => ?_
          show (if false = true then _ else _)
          rw [if_neg (by decide)]
          exact (q.ext x1).now x1.ok
theorem snd_any_cons {t : T} {ts : Ts} (ht : SndT ob Φ t) (hs : SndTsO ob Φ ts) : SndTsO ob Φ (.cons t ts) := by
  refine fun {X Γ k xs p g H σ ρ b} h m n e Q q => ?_
  cases xs with
  | nil => exact absurd rfl n
  | cons x xs =>
    obtain ⟨m1, m2⟩ := and2 (show (mT Γ t x && mTs Γ ts xs) = true from m)
    simp only [evAny] at e
    cases xs with
    | nil =>
      have : ts = .nil := by cases ts <;> first | rfl | cases m2
      subst this
      refine (pw_or1 pt_wp).wp (ht h m1 (b := b) ?_ Q q)
      revert e
      cases evT Φ t ρ with
      | none => intro e; cases e
      | some c => cases c <;> exact fun e => e
    | cons y ys =>
      refine (pw_or pt_wp pw_wp).wp ?_
      cases et : evT Φ t ρ with
      | none => rw [et] at e; cases e
      | some c =>
        rw [et] at e
        cases c with
        | false =>
          refine ht h m1 et _ fun g1 H1 x1 => ?_
          show (if false = true then _ else _)
          rw [if_neg (by decide)]
          exact hs (h.ext x1) m2 (by simp) e Q (q.ext x1)
        | true =>
          cases e
          refine ht h m1 et _ fun g1 H1 x1 => ?_
          show (if true = true then _ else _)
          rw [if_pos rfl]
          exact (q.ext x1).now x1.ok
theorem snd_tand {ts : Ts} (hs : SndTsA ob Φ ts) : SndT ob Φ (.and ts) := by
  refine fun {X Γ k ex g H σ ρ b} h m e Q q => ?_
  cases ex with
  | BoolOp o xs p =>
    cases o with
    | And =>
      obtain ⟨m1, m2⟩ := and2 (show (mTs Γ ts xs && !xs.isEmpty) = true from m)
      refine (PW.pt pw_wp).wp (hs h m1 (fun z => by subst z; cases m2) (by simpa only [evT] using e) Q q)
    | Or => cases m
  | _ => cases m
theorem snd_tor {ts : Ts} (hs : SndTsO ob Φ ts) : SndT ob Φ (.or ts) := by
  refine fun {X Γ k ex g H σ ρ b} h m e Q q => ?_
  cases ex with
  | BoolOp o xs p =>
    cases o with
    | Or =>
      obtain ⟨m1, m2⟩ := and2 (show (mTs Γ ts xs && !xs.isEmpty) = true from m)
      refine (PW.pt pw_wp).wp (hs h m1 (fun z => by subst z; cases m2) (by simpa only [evT] using e) Q q)
    | And => cases m
  | _ => cases m
end
end MP

set_option maxHeartbeats 1000000
/-! MiniPy: displays, items, slices, calls. -/
namespace MP
open PySem PySem.Spec PyProof.Rows L2
section
variable {ob : Ob} {Φ : Nat → List D → Option D} {X : Cx} {Γ : Gam} {k : Nat} {g : Gh} {H : Hp} {σ : L2.St} {ρ : Rho}
/-! ### lists of arguments -/
theorem snd_es_nil : SndEs ob Φ .nil := by
  refine fun {X Γ k es g H σ ρ ds} h m e Q q => ?_
  cases es with
  | nil =>
    cases (show some [] = some ds from e)
    exact PA.wp pa_nil (q [] g H (Ext.refl h.w) .nil)
  | cons x xs => cases m
theorem snd_es_cons {c : E} {cs : Es} (hc : SndN ob Φ c) (hs : SndEs ob Φ cs) : SndEs ob Φ (.cons c cs) := by
  refine fun {X Γ k es g H σ ρ ds} h m e Q q => ?_
  cases es with
  | nil => cases m
  | cons x xs =>
    obtain ⟨m1, m2⟩ := and2 (show (mE Γ c x && mEs Γ cs xs) = true from m)
    simp only [evEs] at e
    split at e
    · rename_i d ds' e1 e2
      cases e
      obtain ⟨e1, e3⟩ := pure_some e1
      refine (pa_cons pe_wp pa_wp (star_cons m1 xs X.env)).wp (hc h m1 e1 _ fun v g1 H1 x1 r1 => ?_)
      refine hs (h.ext x1) m2 e2 _ fun vs g2 H2 x2 r2 => ?_
      exact q _ _ _ (x1.trans x2) (.cons (Rep.mono x2.le _ _ (r1.pure e3)) r2)
    · cases e
theorem snd_ps_nil : SndPs ob Φ .nil := by
  refine fun {X Γ k es g H σ ρ ds} h m e Q q => ?_
  cases es with
  | nil =>
    cases (show some [] = some ds from e)
    exact PA.wp pa_nil (q [] g H (Ext.refl h.w) .nil)
  | cons x xs => cases m
theorem snd_ps_cons {c : E} {cs : Es} (hc : SndN ob Φ c) (hs : SndPs ob Φ cs) : SndPs ob Φ (.cons c cs) := by
  refine fun {X Γ k es g H σ ρ ds} h m e Q q => ?_
  cases es with
  | nil => cases m
  | cons x xs =>
    obtain ⟨m1, m2⟩ := and2 (show (mE Γ c x && mEs Γ cs xs) = true from m)
    simp only [evPs] at e
    split at e
    · rename_i d ds' e1 e2
      cases e
      refine (pa_cons pe_wp pa_wp (star_cons m1 xs X.env)).wp (hc h m1 e1 _ fun v g1 H1 x1 r1 => ?_)
      refine hs (h.ext x1) m2 e2 _ fun vs g2 H2 x2 r2 => ?_
      exact q _ _ _ (x1.trans x2) (.cons (r1.ext x2) r2)
    · cases e
/-! ### displays -/
theorem snd_tup {cs : Es} (hs : SndEs ob Φ cs) : SndE ob Φ (.tup cs) := by
  refine ⟨fun {X Γ k ex g H σ ρ d} h m e Q q => ?_, fun z => by cases z⟩
  cases ex with
  | Tuple xs kk p =>
    simp only [evE] at e
    split at e
    · rename_i ds e1
      split at e
      · rename_i hl
        cases e
        refine (pe_tup pa_wp).wp (hs h (show mEs Γ cs xs = true from m) e1 _ fun vs g1 H1 x1 r1 => ⟨?_, fun p hp => (q.ext x1).newTup x1.ok r1 p hp⟩)
        rw [r1.len, ← line_eq]
        exact of_decide_eq_true hl
      · cases e
    · cases e
  | _ => cases m
theorem snd_lst {cs : Es} (hs : SndEs ob Φ cs) : SndE ob Φ (.lst cs) := by
  have key : ∀ {X : Cx} {Γ : Gam} {k : Nat} {ex : Expr} {g : Gh} {H : Hp} {σ : L2.St} {ρ : Rho} {d : D}, Here ob Φ X Γ k g H σ ρ → mE Γ (.lst cs) ex = true → evE Φ (.lst cs) ρ = some d → ∃ ds, d = .lst ds ∧ ∀ Q, PostL ob X.K g H ds Q → wpE X ex σ H Q := by
    intro X Γ k ex g H σ ρ d h m e
    cases ex with
    | List xs p =>
      simp only [evE] at e
      split at e
      · rename_i ds e1
        split at e
        · rename_i hl
          cases e
          refine ⟨ds, rfl, fun Q q => (pe_lst pa_wp).wp (hs h (show mEs Γ cs xs = true from m) e1 _ fun vs g1 H1 x1 r1 => ⟨?_, fun p hp => (q.ext x1).new x1.ok r1 p hp⟩)⟩
          rw [r1.len, ← line_eq]
          exact of_decide_eq_true hl
        · cases e
      · cases e
    | _ => cases m
  refine ⟨fun {X Γ k ex g H σ ρ d} h m e Q q => ?_, fun _ => fun {X Γ k ex g H σ ρ ds} h m e Q q => ?_⟩
  · obtain ⟨ds, rfl, z⟩ := key h m e
    exact z Q q.frz
  · obtain ⟨ds', e', z⟩ := key h m e
    cases e'
    exact z Q q
/-! ### and, or, not, if as values -/
def SndAnd (ob : Ob) (Φ : Nat → List D → Option D) (cs : Es) : Prop := ∀ {X : Cx} {Γ : Gam} {k : Nat} {xs : List Expr} {p : Pos} {g : Gh} {H : Hp} {σ : L2.St} {ρ : Rho} {d : D}, Here ob Φ X Γ k g H σ ρ → mEs Γ cs xs = true → evAnd Φ cs ρ = some d → ∀ Q, PostE ob X.K g H d Q → wpE X (.BoolOp .And xs p) σ H Q
def SndOr (ob : Ob) (Φ : Nat → List D → Option D) (cs : Es) : Prop := ∀ {X : Cx} {Γ : Gam} {k : Nat} {xs : List Expr} {p : Pos} {g : Gh} {H : Hp} {σ : L2.St} {ρ : Rho} {d : D}, Here ob Φ X Γ k g H σ ρ → mEs Γ cs xs = true → evOr Φ cs ρ = some d → ∀ Q, PostE ob X.K g H d Q → wpE X (.BoolOp .Or xs p) σ H Q
theorem snd_and_nil : SndAnd ob Φ .nil := fun h m e => by cases (show none = some _ from e)
theorem snd_or_nil : SndOr ob Φ .nil := fun h m e => by cases (show none = some _ from e)
theorem snd_and_cons {c : E} {cs : Es} (hc : SndN ob Φ c) (hs : SndAnd ob Φ cs) : SndAnd ob Φ (.cons c cs) := by
  refine fun {X Γ k xs p g H σ ρ d} h m e Q q => ?_
  cases xs with
  | nil => cases m
  | cons x xs =>
    obtain ⟨m1, m2⟩ := and2 (show (mE Γ c x && mEs Γ cs xs) = true from m)
    cases cs with
    | nil =>
      have : xs = [] := by cases xs <;> first | rfl | cases m2
      subst this
      simp only [evAnd] at e
      obtain ⟨e1, _⟩ := pure_some e
      exact (pe_one pe_wp).wp (hc h m1 e1 Q q)
    | cons c' cs' =>
      cases xs with
      | nil => cases m2
      | cons y ys =>
        simp only [evAnd] at e
        refine (pe_and pe_wp pe_wp).wp ?_
        split at e
        · rename_i e1
          refine hc h m1 e1 _ fun v g1 H1 x1 r1 => ?_
          cases (show Rep _ _ _ _ from r1)
          refine ⟨true, rfl, ?_⟩
          rw [if_pos rfl]
          exact hs (h.ext x1) m2 (by simpa only [evAnd] using e) Q (q.ext x1)
        · rename_i e1
          cases e
          refine hc h m1 e1 _ fun v g1 H1 x1 r1 => ?_
          cases (show Rep _ _ _ _ from r1)
          refine ⟨false, rfl, ?_⟩
          rw [if_neg (by decide)]
          exact (q.ext x1).now x1.ok (.of (.bl _))
        · cases e
theorem snd_or_cons {c : E} {cs : Es} (hc : SndN ob Φ c) (hs : SndOr ob Φ cs) : SndOr ob Φ (.cons c cs) := by
  refine fun {X Γ k xs p g H σ ρ d} h m e Q q => ?_
  cases xs with
  | nil => cases m
  | cons x xs =>
    obtain ⟨m1, m2⟩ := and2 (show (mE Γ c x && mEs Γ cs xs) = true from m)
    cases cs with
    | nil =>
      have : xs = [] := by cases xs <;> first | rfl | cases m2
      subst this
      simp only [evOr] at e
      obtain ⟨e1, _⟩ := pure_some e
      exact (pe_one pe_wp).wp (hc h m1 e1 Q q)
    | cons c' cs' =>
      cases xs with
      | nil => cases m2
      | cons y ys =>
        simp only [evOr] at e
        refine (pe_or pe_wp pe_wp).wp ?_
        split at e
        · rename_i e1
          refine hc h m1 e1 _ fun v g1 H1 x1 r1 => ?_
          cases (show Rep _ _ _ _ from r1)
          refine ⟨false, rfl, ?_⟩
          rw [if_neg (by decide)]
          exact hs (h.ext x1) m2 (by simpa only [evOr] using e) Q (q.ext x1)
        · rename_i e1
          cases e
          refine hc h m1 e1 _ fun v g1 H1 x1 r1 => ?_
          cases (show Rep _ _ _ _ from r1)
          refine ⟨true, rfl, ?_⟩
          rw [if_pos rfl]
          exact (q.ext x1).now x1.ok (.of (.bl _))
        · cases e
theorem snd_andV {cs : Es} (hs : SndAnd ob Φ cs) : SndE ob Φ (.andV cs) := by
  refine ⟨fun {X Γ k ex g H σ ρ d} h m e Q q => ?_, fun z => by cases z⟩
  cases ex with
  | BoolOp o xs p =>
    cases o with
    | And => exact hs h (show mEs Γ cs xs = true from m) (by simpa only [evE] using e) Q q
    | Or => cases m
  | _ => cases m
theorem snd_orV {cs : Es} (hs : SndOr ob Φ cs) : SndE ob Φ (.orV cs) := by
  refine ⟨fun {X Γ k ex g H σ ρ d} h m e Q q => ?_, fun z => by cases z⟩
  cases ex with
  | BoolOp o xs p =>
    cases o with
    | Or => exact hs h (show mEs Γ cs xs = true from m) (by simpa only [evE] using e) Q q
    | And => cases m
  | _ => cases m
theorem snd_notV {c : E} (hc : SndN ob Φ c) : SndE ob Φ (.notV c) := by
  refine ⟨fun {X Γ k ex g H σ ρ d} h m e Q q => ?_, fun z => by cases z⟩
  cases ex with
  | UnaryOp o x p =>
    cases o with
    | Not =>
      simp only [evE] at e
      split at e
      · rename_i b e1
        cases e
        refine (pe_not pe_wp).wp (hc h (show mE Γ c x = true from m) e1 _ fun v g1 H1 x1 r1 => ?_)
        cases (show Rep _ _ _ _ from r1)
        exact ⟨b, rfl, (q.ext x1).now x1.ok (.of (.bl _))⟩
      · cases e
    | _ => cases m
  | _ => cases m
theorem snd_ite {t : T} {a b : E} (ht : SndT ob Φ t) (ha : SndN ob Φ a) (hb : SndN ob Φ b) : SndE ob Φ (.ite t a b) := by
  refine ⟨fun {X Γ k ex g H σ ρ d} h m e Q q => ?_, fun z => by cases z⟩
  cases ex with
  | IfExp c x y p =>
    obtain ⟨m1, m3⟩ := and2 (show (mT Γ t c && mE Γ a x && mE Γ b y) = true from m)
    obtain ⟨m1, m2⟩ := and2 m1
    simp only [evE] at e
    refine (pe_ifExp pt_wp pe_wp pe_wp).wp ?_
    split at e
    · rename_i e1
      obtain ⟨e2, _⟩ := pure_some e
      refine ht h m1 e1 _ fun g1 H1 x1 => ?_
      show (if true = true then _ else _)
      rw [if_pos rfl]
      exact ha (h.ext x1) m2 e2 Q (q.ext x1)
    · rename_i e1
      obtain ⟨e2, _⟩ := pure_some e
      refine ht h m1 e1 _ fun g1 H1 x1 => ?_
      show (if false = true then _ else _)
      rw [if_neg (by decide)]
      exact hb (h.ext x1) m3 e2 Q (q.ext x1)
    · cases e
  | _ => cases m
/-! ### items, slices -/
theorem snd_idx {a b : E} (ha : SndN ob Φ a) (hb : SndN ob Φ b) : SndE ob Φ (.idx a b) := by
  refine ⟨fun {X Γ k ex g H σ ρ d} h m e Q q => ?_, fun z => by cases z⟩
  cases ex with
  | Subscript x y p =>
    have m' : (mE Γ a x && mE Γ b y) = true := by
      have n : (∀ l u s p, y ≠ .Slice l u s p) := by
        intro l u s p z
        subst z
        have m : (mE Γ (.idx a b) (.Subscript x (.Slice l u s p) _)) = true := m
        simp only [mE] at m
        obtain ⟨_, m2⟩ := and2 m
        cases b <;> simp [mE] at m2
      simpa only [mE] using m
    obtain ⟨m1, m2⟩ := and2 m'
    simp only [evE] at e
    split at e
    · rename_i da db ea eb
      unfold ixD at e
      split at e
      · refine (pe_ix ix_list pe_wp pe_wp (plain_ix m2)).wp (two ha hb h m1 m2 ea eb fun va vb g' H' xt ra rb => ?_)
        obtain ⟨l, xs, rfl, r1, hl⟩ := ra.list xt.ok rfl
        cases (show Rep _ _ _ _ from rb)
        obtain ⟨v, hv, rv⟩ := atI_rep hl e
        exact ⟨l, xs, _, v, rfl, rfl, r1, hv, (q.ext xt).now xt.ok (.of rv)⟩
      · refine (pe_ix ix_list pe_wp pe_wp (plain_ix m2)).wp (two ha hb h m1 m2 ea eb fun va vb g' H' xt ra rb => ?_)
        obtain ⟨l, xs, rfl, r1, hl⟩ := ra.list xt.ok rfl
        cases (show Rep _ _ _ _ from rb)
        obtain ⟨v, hv, rv⟩ := atI_rep hl e
        exact ⟨l, xs, _, v, rfl, rfl, r1, hv, (q.ext xt).now xt.ok (.of rv)⟩
      · refine (pe_ix ix_tup pe_wp pe_wp (plain_ix m2)).wp (two ha hb h m1 m2 ea eb fun va vb g' H' xt ra rb => ?_)
        obtain ⟨l, xs, rfl, r1, hl⟩ := ra.tuple xt.ok
        cases (show Rep _ _ _ _ from rb)
        obtain ⟨v, hv, rv⟩ := atI_rep hl e
        exact ⟨l, xs, _, v, rfl, rfl, r1, hv, (q.ext xt).now xt.ok (.of rv)⟩
      · split at e
        · rename_i hz
          rename_i z i
          refine (pe_ix ix_str pe_wp pe_wp (plain_ix m2)).wp (two ha hb h m1 m2 ea eb fun va vb g' H' xt ra rb => ?_)
          cases (show Rep _ _ _ _ from ra)
          cases (show Rep _ _ _ _ from rb)
          cases ec : atI z.cps.toList i with
          | none => rw [ec] at e; cases e
          | some c =>
            rw [ec] at e
            cases e
            exact ⟨z, i, c, rfl, rfl, by rw [← line_eq]; exact of_decide_eq_true hz, ec, (q.ext xt).now xt.ok (.of (.str _))⟩
        · cases e
      · cases e
    · cases e
  | _ => cases m
def SndO (ob : Ob) (Φ : Nat → List D → Option D) (c : O) : Prop := ∀ {X : Cx} {Γ : Gam} {k : Nat} {ex : Option Expr} {g : Gh} {H : Hp} {σ : L2.St} {ρ : Rho} {o : Option Int}, Here ob Φ X Γ k g H σ ρ → mO Γ c ex = true → evO Φ c ρ = some o →
  ∃ t : TO, PO X ex t ∧ ∀ g1 H1, Ext ob g H g1 H1 → ∀ Q : Option Int → Hp → Prop, (∀ g2 H2, Ext ob g1 H1 g2 H2 → Q o H2) → t σ H1 Q
theorem snd_o_none : SndO ob Φ .none := by
  refine fun {X Γ k ex g H σ ρ o} h m e => ?_
  cases ex with
  | none =>
    cases (show some none = some o from e)
    exact ⟨_, po_none, fun g1 H1 x1 Q q => q g1 H1 (Ext.refl x1.ok)⟩
  | some x => cases m
theorem snd_o_some {c : E} (hc : SndN ob Φ c) : SndO ob Φ (.some c) := by
  refine fun {X Γ k ex g H σ ρ o} h m e => ?_
  cases ex with
  | none => cases m
  | some x =>
    simp only [evO] at e
    split at e
    · rename_i i e1
      cases e
      refine ⟨_, po_some pe_wp, fun g1 H1 x1 Q q => hc (h.ext x1) (show mE Γ c x = true from m) e1 _ fun v g2 H2 x2 r2 => ?_⟩
      cases (show Rep _ _ _ _ from r2)
      exact ⟨i, rfl, q g2 H2 x2⟩
    · cases e
theorem snd_slc {a : E} {lo hi : O} (ha : SndN ob Φ a) (hl : SndO ob Φ lo) (hh : SndO ob Φ hi) : SndE ob Φ (.slc a lo hi) := by
  have key : ∀ {X : Cx} {Γ : Gam} {k : Nat} {ex : Expr} {g : Gh} {H : Hp} {σ : L2.St} {ρ : Rho} {d : D}, Here ob Φ X Γ k g H σ ρ → mE Γ (.slc a lo hi) ex = true → evE Φ (.slc a lo hi) ρ = some d → ∃ ds, d = .lst ds ∧ ∀ Q, PostL ob X.K g H ds Q → wpE X ex σ H Q := by
    intro X Γ k ex g H σ ρ d h m e
    cases ex with
    | Subscript x y p =>
      cases y with
      | Slice l u s p2 =>
        cases s with
        | none =>
          obtain ⟨m1, m3⟩ := and2 (show (mE Γ a x && mO Γ lo l && mO Γ hi u) = true from m)
          obtain ⟨m1, m2⟩ := and2 m1
          have fin : ∀ {da : D} {ds : List D} {i j : Option Int}, evE Φ a ρ = some da → seen da = .lst ds → evO Φ lo ρ = some i → evO Φ hi ρ = some j → ∀ Q, PostL ob X.K g H (cutD ds i j) Q → wpE X (.Subscript x (.Slice l u none p2) p) σ H Q := by
            intro da ds i j ea es ei ej Q q
            obtain ⟨tl, pl, hl'⟩ := hl h m2 ei
            obtain ⟨th, ph, hh'⟩ := hh h m3 ej
            refine (pe_slice sl_list pe_wp pl ph).wp (ha h m1 ea _ fun v g1 H1 x1 r1 => ?_)
            refine hl' g1 H1 x1 _ fun g2 H2 x2 => hh' g2 H2 (x1.trans x2) _ fun g3 H3 x3 => ?_
            have xt := (x1.trans x2).trans x3
            obtain ⟨b, xs, rfl, rb, rl⟩ := ((r1.ext x2).ext x3).list xt.ok es
            exact ⟨b, xs, rfl, rb, fun p hp => (q.ext xt).new xt.ok (rl.cut i j) p hp⟩
          simp only [evE] at e
          split at e
          · rename_i ds i j ea ei ej
            cases e
            exact ⟨_, rfl, fin ea rfl ei ej⟩
          · rename_i ds i j ea ei ej
            cases e
            exact ⟨_, rfl, fin ea rfl ei ej⟩
          · cases e
        | some s => cases m
      | _ => cases m
    | _ => cases m
  refine ⟨fun {X Γ k ex g H σ ρ d} h m e Q q => ?_, fun _ => fun {X Γ k ex g H σ ρ ds} h m e Q q => ?_⟩
  · obtain ⟨ds, rfl, z⟩ := key h m e
    exact z Q q.frz
  · obtain ⟨ds', e', z⟩ := key h m e
    cases e'
    exact z Q q
theorem slot_pe0 {X : Cx} {Γ : Gam} (c : Ctx X Γ) {i : Nat} {x : Str} {p : Pos} (m : slotB Γ i x = true) : PE X (.Name x p) (tVar i) := by
  simp only [slotB, nameAt, Bool.and_eq_true, decide_eq_true_eq, Bool.not_eq_true'] at m
  obtain ⟨⟨⟨m1, m2⟩, m3⟩, m4⟩ := m
  exact pe_var (by rw [c.N]; exact m1) (by rw [c.sc]; exact vis_of m2) m3 m4
theorem nosl {Γ : Gam} {c : E} {e : Expr} (h : mE Γ c e = true) : NoSl e := by
  intro o i
  cases e <;> first | rfl | (exfalso; cases c <;> simp [mE] at h)
theorem snd_dget {i : Nat} {a : E} (ha : SndN ob Φ a) : SndE ob Φ (.dget i a) := by
  refine ⟨fun {X Γ k ex g H σ ρ d} h m e Q q => ?_, fun z => by cases z⟩
  cases ex with
  | Subscript x y p =>
    cases x with
    | Name xn px =>
      have m' : (slotB Γ i xn && mE Γ a y) = true := by simpa only [mE] using m
      obtain ⟨m1, m2⟩ := and2 m'
      simp only [evE] at e
      split at e
      · rename_i kvs dk er ek
        split at e
        · rename_i kk ekk
          obtain ⟨b, u, h1, h2, hf, hb, h3⟩ := h.s.at' _ _ er
          refine (pe_nget (by have := h.f.room.un; omega) (slot_pe0 h.c m1) pe_wp (nosl m2)).wp ?_
          refine ⟨.ref b, h1, ha h m2 ek _ fun v g1 H1 x1 r1 => ?_⟩
          have hrep : Rep X.K g1 v dk := r1.pure (by cases dk <;> first | rfl | cases ekk)
          obtain ⟨c, rfl⟩ : ∃ c, v = .ref c := by
            unfold keyT at ekk
            split at ekk
            · cases hrep with
              | tup hs hl => exact ⟨_, rfl⟩
            · cases ekk
          exact ⟨ob, b, c, g1, u, kvs, dk, d, kk, rfl, rfl, x1.ok, x1.keep b _ h2 hb, h3.mono x1.le, hrep, ekk, e, fun v' r' => (q.ext x1).now x1.ok (.of r')⟩
        · cases e
      · cases e
    | _ => exfalso; simp [mE] at m
  | _ => cases m
theorem snd_rev {a : E} (ha : SndN ob Φ a) : SndE ob Φ (.rev a) := by
  refine ⟨fun {X Γ k ex g H σ ρ d} h m e Q q => ?_, fun z => by cases z⟩
  have txt : ∃ x kk p1 p2 p3 p, ex = .Subscript x (.Slice none none (some (.UnaryOp .USub (.Constant (.int 1) kk p1) p2)) p3) p ∧ mE Γ a x = true := by
    cases ex with
    | Subscript x y p =>
      cases y with
      | Slice l u s p3 =>
        cases l with
        | some _ => simp [mE] at m
        | none =>
          cases u with
          | some _ => simp [mE] at m
          | none =>
            cases s with
            | none => simp [mE] at m
            | some e =>
              cases e with
              | UnaryOp op z p2 =>
                cases op with
                | USub =>
                  cases z with
                  | Constant cst kk p1 =>
                    cases cst with
                    | int j =>
                      have m' : (decide (j = 1) && mE Γ a x) = true := by simpa only [mE] using m
                      obtain ⟨m1, m2⟩ := and2 m'
                      obtain rfl := of_decide_eq_true m1
                      exact ⟨x, kk, p1, p2, p3, p, rfl, m2⟩
                    | _ => simp [mE] at m
                  | _ => simp [mE] at m
                | _ => simp [mE] at m
              | _ => simp [mE] at m
      | _ => simp [mE] at m
    | _ => simp [mE] at m
  obtain ⟨x, kk, p1, p2, p3, p, rfl, m1⟩ := txt
  simp only [evE] at e
  split at e
  · rename_i ds ea
    cases e
    refine (pe_revL pe_wp).wp (ha h m1 ea _ fun v g1 H1 x1 r1 => ?_)
    obtain ⟨b, xs, rfl, rb, rl⟩ := r1.list x1.ok rfl
    refine ⟨b, xs, rfl, rb, fun p hp => (q.ext x1).frz.new x1.ok (rl.reverse) p hp⟩
  · cases e
/-! ### calls -/
theorem rep_ints : ∀ (ns : List Int), RepL X.K g (ns.map V.int) (ns.map D.int) := RepL.ints
theorem snd_call {f : Nat} {cs : Es} {dv : List Int} (hs : SndEs ob Φ cs) : SndE ob Φ (.call f cs dv) := by
  refine ⟨fun {X Γ k ex g H σ ρ d} h m e Q q => ?_, fun z => by cases z⟩
  cases ex with
  | Call fn xs kws p =>
    cases fn with
    | Name x p2 =>
      cases kws with
      | nil =>
        obtain ⟨m1, m5⟩ := and2 (show (decide (Γ.fname f = some x) && glB Γ.sc x && !(x == ("__debug__" : Str)) && decide (dv ∈ Γ.dfl f) && mEs Γ cs xs) = true from m)
        obtain ⟨m1, m4⟩ := and2 m1
        obtain ⟨m1, m3⟩ := and2 m1
        obtain ⟨m1, m2⟩ := and2 m1
        obtain ⟨a, fd, ps, g1, g2, F, gb⟩ := h.f.fn f x (of_decide_eq_true m1)
        obtain ⟨us, r, b⟩ := gb dv (of_decide_eq_true m4)
        have hdb : (x == ("__debug__" : Str)) = false := by simpa using m3
        simp only [evE] at e
        split at e
        · rename_i ds e1
          have fin : ∀ (vs : List V) (g' : Gh) (H' : Hp), Ext ob g H g' H' → RepL X.K g' vs ds → spF ob X.K (Φ f) (vs ++ dv.map V.int) H' Q E0 := fun vs g' H' xt rl =>
            ⟨g', _, d, xt.ok, rl.append (RepL.ints dv), e, fun v g2 H2 x2 r2 => (q.ext xt) v g2 H2 x2 (.of r2)⟩
          cases xs with
          | nil =>
            have : cs = .nil := by cases cs <;> first | rfl | cases m5
            subst this
            cases (show some [] = some ds from e1)
            exact (pe_call0 F h.f.room (gl_of h.c m2) g1 g2 b r pass0 hdb).wp (fin [] g H (Ext.refl h.w) .nil)
          | cons y ys =>
            cases cs with
            | nil => cases m5
            | cons c cs =>
              obtain ⟨m6, m7⟩ := and2 (show (mE Γ c y && mEs Γ cs ys) = true from m5)
              refine (pe_call F h.f.room (gl_of h.c m2) g1 g2 b r pass0 pa_wp hdb (star_cons m6 ys X.env) (star_none m7)).wp ?_
              exact hs h m5 e1 _ fun vs g' H' xt rl => fin vs g' H' xt rl
        · cases e
      | cons _ _ => cases m
    | _ => cases m
  | _ => cases m
end
end MP

set_option maxHeartbeats 1000000
/-! MiniPy: built-ins. -/
namespace MP
open PySem PySem.Spec PyProof.Rows L2
section
variable {ob : Ob} {Φ : Nat → List D → Option D} {X : Cx} {Γ : Gam} {k : Nat} {g : Gh} {H : Hp} {σ : L2.St} {ρ : Rho}
def dTy : D → Option String
  | .non => some "NoneType" | .bl _ => some "bool" | .int _ => some "int" | .str _ => some "str" | .tup _ => some "tuple" | .lst _ => some "list" | _ => none
theorem dTy_ty {v : V} {d : D} {t : String} (w : WOk ob g H) (r : RepR X.K g H v d) (e : dTy d = some t) : TyX X.K H v (.type t) := by
  cases d with
  | non => cases (show Rep _ _ _ _ from r); cases e; exact .base .non
  | bl b => cases (show Rep _ _ _ _ from r); cases e; exact .base (.bl _)
  | int i => cases (show Rep _ _ _ _ from r); cases e; exact .base (.int _)
  | str x => cases (show Rep _ _ _ _ from r); cases e; exact .base (.str _)
  | tup ds =>
    cases e
    obtain ⟨a, xs, rfl, h1, hl⟩ := r.tuple w
    rcases h1 with (h1 | ⟨o, h1⟩) | ⟨o, its, n, hk, hc, _⟩
    · exact .base (.tup h1)
    · exact .fTuple h1
    · exact .kTuple hk hc
  | lst ds =>
    cases e
    obtain ⟨a, xs, rfl, h1, hl⟩ := r.list w rfl
    rcases h1 with (h1 | ⟨o, h1⟩) | ⟨o, its, n, hk, hc, _⟩
    · exact .base (.lst h1)
    · exact .base (.frz h1)
    · exact .kList hk hc
  | own ds => cases e
  | obj t d => cases e
theorem isi_kit {p : Pm} {d e : D} {x : Str} {cn : String} (h : primD p [d] = some e) (hp : pcls p = some (x, cn)) : ∃ b t, e = .bl b ∧ dTy d = some t ∧ kitB t cn = some b := by
  cases p <;> cases hp <;> cases d <;> first
    | (cases h; done)
    | (cases h; exact ⟨_, _, rfl, rfl, by decide +kernel⟩)
theorem one_arg {cs : Es} {y : Expr} (m : mEs Γ cs [y] = true) : ∃ c, cs = .cons c .nil ∧ mE Γ c y = true := by
  cases cs with
  | nil => cases m
  | cons c cs =>
    obtain ⟨m1, m2⟩ := and2 (show (mE Γ c y && mEs Γ cs []) = true from m)
    cases cs with
    | nil => exact ⟨c, rfl, m1⟩
    | cons _ _ => cases m2
theorem evPs_one {c : E} {ds : List D} (e : evPs Φ (.cons c .nil) ρ = some ds) : ∃ d, ds = [d] ∧ evE Φ c ρ = some d := by
  simp only [evPs] at e
  split at e
  · rename_i d ds' e1 e2
    cases e2
    cases e
    exact ⟨d, rfl, e1⟩
  · cases e
/-- list(x) -/
def isListP : Pm → Bool | .list => true | _ => false
theorem fr_len : ("len" : Str) ∈ ([("len" : Str), "abs", "int", "list", "tuple", "isinstance", "range", "bool", "str"] : List Str) := by decide +kernel
theorem primD_lst {p : Pm} {es xs : List D} (e : primD p es = some (.lst xs)) : False := by
  unfold primD at e
  split at e <;> (try split at e) <;> simp at e
theorem snd_prim {p : Pm} {cs : Es} (hs : ∀ c, cs = .cons c .nil → SndN ob Φ c) : SndE ob Φ (.prim p cs) := by
  have txt : ∀ {Γ : Gam} {ex : Expr}, mE Γ (.prim p cs) ex = true → ∃ y ys p1 p2, ex = .Call (.Name (pname p) p1) (y :: ys) [] p2 ∧ glB Γ.sc (pname p) = true ∧ ∃ c, cs = .cons c .nil ∧ mE Γ c y = true ∧
      ((pcls p = none ∧ ys = []) ∨ ∃ x cn p3, pcls p = some (x, cn) ∧ ys = [.Name x p3] ∧ glB Γ.sc x = true) := by
    intro Γ ex m
    cases ex with
    | Call fn xs kws pp =>
      cases fn with
      | Name x p2 =>
        cases kws with
        | nil =>
          simp only [mE] at m
          obtain ⟨m1, m3⟩ := and2 m
          obtain ⟨m1, m2⟩ := and2 m1
          obtain rfl := of_decide_eq_true m1
          split at m3
          · rename_i ep
            split at m3
            · rename_i y
              obtain ⟨c, ec, mc⟩ := one_arg m3
              exact ⟨_, _, _, _, rfl, m2, c, ec, mc, .inl ⟨ep, rfl⟩⟩
            · cases m3
          · rename_i cc cn ep
            split at m3
            · rename_i y z p3
              obtain ⟨m6, m5⟩ := and2 m3
              obtain ⟨m7, m4⟩ := and2 m6
              obtain rfl := of_decide_eq_true m4
              obtain ⟨c, ec, mc⟩ := one_arg m7
              exact ⟨_, _, _, _, rfl, m2, c, ec, mc, .inr ⟨_, _, _, ep, rfl, m5⟩⟩
            · cases m3
        | cons _ _ => cases m
      | _ => cases m
    | _ => cases m
  have ev : ∀ {ρ : Rho} {d : D} {c : E}, cs = .cons c .nil → evE Φ (.prim p cs) ρ = some d → ∃ dc, evE Φ c ρ = some dc ∧ ((p = .list ∧ ∃ xs, lst? dc = some xs ∧ d = .lst xs) ∨ primD p [dc] = some d) := by
    intro ρ d c ec e
    subst ec
    simp only [evE] at e
    split at e
    · rename_i ds e1
      obtain ⟨dc, rfl, e2⟩ := evPs_one e1
      refine ⟨dc, e2, ?_⟩
      split at e
      · rename_i d' ed
        cases ed
        split at e
        · rename_i xs e3
          cases e
          exact .inl ⟨rfl, xs, e3, rfl⟩
        · cases e
      · exact .inr e
    · cases e
  -- the argument, evaluated
  have arg : ∀ {X : Cx} {Γ : Gam} {k : Nat} {g : Gh} {H : Hp} {σ : L2.St} {ρ : Rho} {c : E} {y : Expr} {dc : D}, Here ob Φ X Γ k g H σ ρ → cs = .cons c .nil → mE Γ c y = true → evE Φ c ρ = some dc → ∀ {R : List V → Hp → Prop},
      (∀ v g' H', Ext ob g H g' H' → RepR X.K g' H' v dc → R [v] H') → wpA X [y] σ H R := by
    intro X Γ k g H σ ρ c y dc h ec mc e R post
    exact (pa_cons pe_wp pa_nil (star_cons mc [] X.env)).wp (hs c ec h mc e _ fun v g' H' xt r => post v g' H' xt r)
  have lst : ∀ {X : Cx} {Γ : Gam} {k : Nat} {ex : Expr} {g : Gh} {H : Hp} {σ : L2.St} {ρ : Rho} {c : E} {dc : D} {xs : List D}, Here ob Φ X Γ k g H σ ρ → mE Γ (.prim p cs) ex = true → cs = .cons c .nil → evE Φ c ρ = some dc → p = .list → lst? dc = some xs →
      ∀ Q, PostL ob X.K g H xs Q → wpE X ex σ H Q := by
    intro X Γ k ex g H σ ρ c dc xs h m ec e hp el Q q
    obtain ⟨y, ys, p1, p2, rfl, mg, c', ec', mc, alt⟩ := txt m
    rw [ec] at ec'
    cases ec'
    subst hp
    rcases alt with ⟨_, rfl⟩ | ⟨_, _, _, z, _⟩
    · refine (pe_callTy call_list_of (gl_of h.c mg) (h.f.bl _ (by simp [pname])) (by decide +kernel) pa_wp (he := star_cons mc [] X.env) (hpl := rfl)).wp ?_
      refine arg h ec mc e fun v g' H' xt r => ?_
      cases dc with
      | lst ds =>
        cases el
        obtain ⟨a, vs, rfl, h1, hl⟩ := r.list xt.ok rfl
        exact ⟨a, vs, rfl, .inl h1, fun l hl' => (q.ext xt).new xt.ok hl l hl'⟩
      | own ds =>
        cases el
        obtain ⟨a, vs, rfl, h1, hl⟩ := r.list xt.ok rfl
        exact ⟨a, vs, rfl, .inl h1, fun l hl' => (q.ext xt).new xt.ok hl l hl'⟩
      | tup ds =>
        cases el
        obtain ⟨a, vs, rfl, h1, hl⟩ := r.tuple xt.ok
        exact ⟨a, vs, rfl, .inr h1, fun l hl' => (q.ext xt).new xt.ok hl l hl'⟩
      | _ => cases el
    · cases z
  refine ⟨fun {X Γ k ex g H σ ρ d} h m e Q q => ?_, fun _ => fun {X Γ k ex g H σ ρ ds} h m e Q q => ?_⟩
  · obtain ⟨y, ys, p1, p2, rfl, mg, c, ec, mc, alt⟩ := txt m
    obtain ⟨dc, e1, ⟨hp, xs, el, rfl⟩ | e2⟩ := ev ec e
    · exact lst h m ec e1 hp el Q q.frz
    · rcases alt with ⟨hp, rfl⟩ | ⟨x, cn, p3, hp, rfl, gx⟩
      · -- one argument
        cases p with
        | len =>
          cases dc with
          | str z =>
            have e2' : (if decide (z.length ≤ line) = true then some (D.int (z.length : Int)) else none) = some d := e2
            split at e2'
            · rename_i hz
              cases e2'
              refine (pe_callB call_len_str (gl_of h.c mg) (h.f.bl _ (by simp [pname])) (by decide +kernel) pa_wp (he := star_cons mc [] X.env) (hpl := rfl)).wp (arg h ec mc e1 fun v g' H' xt r => ?_)
              cases (show Rep _ _ _ _ from r)
              exact ⟨z, rfl, by rw [← line_eq]; exact of_decide_eq_true hz, (q.ext xt).now xt.ok (.of (.int _))⟩
            · cases e2'
          | lst ds =>
            cases e2
            refine (pe_callB call_len_seq (gl_of h.c mg) (h.f.bl _ (by simp [pname])) (by decide +kernel) pa_wp (he := star_cons mc [] X.env) (hpl := rfl)).wp (arg h ec mc e1 fun v g' H' xt r => ?_)
            obtain ⟨a, vs, rfl, h1, hl⟩ := r.list xt.ok rfl
            refine ⟨a, vs, rfl, .inl h1, ?_⟩
            rw [hl.len]
            exact (q.ext xt).now xt.ok (.of (.int _))
          | own ds =>
            cases e2
            refine (pe_callB call_len_seq (gl_of h.c mg) (h.f.bl _ (by simp [pname])) (by decide +kernel) pa_wp (he := star_cons mc [] X.env) (hpl := rfl)).wp (arg h ec mc e1 fun v g' H' xt r => ?_)
            obtain ⟨a, vs, rfl, h1, hl⟩ := r.list xt.ok rfl
            refine ⟨a, vs, rfl, .inl h1, ?_⟩
            rw [hl.len]
            exact (q.ext xt).now xt.ok (.of (.int _))
          | tup ds =>
            cases e2
            refine (pe_callB call_len_seq (gl_of h.c mg) (h.f.bl _ (by simp [pname])) (by decide +kernel) pa_wp (he := star_cons mc [] X.env) (hpl := rfl)).wp (arg h ec mc e1 fun v g' H' xt r => ?_)
            obtain ⟨a, vs, rfl, h1, hl⟩ := r.tuple xt.ok
            refine ⟨a, vs, rfl, .inr h1, ?_⟩
            rw [hl.len]
            exact (q.ext xt).now xt.ok (.of (.int _))
          | _ => cases e2
        | abs =>
          cases dc with
          | int i =>
            cases e2
            refine (pe_callB call_abs (gl_of h.c mg) (h.f.bl _ (by simp [pname])) (by decide +kernel) pa_wp (he := star_cons mc [] X.env) (hpl := rfl)).wp (arg h ec mc e1 fun v g' H' xt r => ?_)
            cases (show Rep _ _ _ _ from r)
            exact ⟨i, rfl, (q.ext xt).now xt.ok (.of (.int _))⟩
          | _ => cases e2
        | int =>
          cases dc with
          | int i =>
            cases e2
            refine (pe_callTy call_int1 (gl_of h.c mg) (h.f.bl _ (by simp [pname])) (by decide +kernel) pa_wp (he := star_cons mc [] X.env) (hpl := rfl)).wp (arg h ec mc e1 fun v g' H' xt r => ?_)
            cases (show Rep _ _ _ _ from r)
            exact .inl ⟨i, rfl, (q.ext xt).now xt.ok (.of (.int _))⟩
          | bl b =>
            cases e2
            refine (pe_callTy call_int1 (gl_of h.c mg) (h.f.bl _ (by simp [pname])) (by decide +kernel) pa_wp (he := star_cons mc [] X.env) (hpl := rfl)).wp (arg h ec mc e1 fun v g' H' xt r => ?_)
            cases (show Rep _ _ _ _ from r)
            exact .inr ⟨b, rfl, (q.ext xt).now xt.ok (.of (.int _))⟩
          | _ => cases e2
        | list => cases dc <;> cases e2
        | tuple =>
          cases dc with
          | lst ds =>
            cases e2
            refine (pe_callTy call_tuple_of (gl_of h.c mg) (h.f.bl _ (by simp [pname])) (by decide +kernel) pa_wp (he := star_cons mc [] X.env) (hpl := rfl)).wp (arg h ec mc e1 fun v g' H' xt r => ?_)
            obtain ⟨a, vs, rfl, h1, hl⟩ := r.list xt.ok rfl
            exact ⟨a, vs, rfl, .inl ⟨h1, fun l hl' => (q.ext xt).newTup xt.ok hl l hl'⟩⟩
          | own ds =>
            cases e2
            refine (pe_callTy call_tuple_of (gl_of h.c mg) (h.f.bl _ (by simp [pname])) (by decide +kernel) pa_wp (he := star_cons mc [] X.env) (hpl := rfl)).wp (arg h ec mc e1 fun v g' H' xt r => ?_)
            obtain ⟨a, vs, rfl, h1, hl⟩ := r.list xt.ok rfl
            exact ⟨a, vs, rfl, .inl ⟨h1, fun l hl' => (q.ext xt).newTup xt.ok hl l hl'⟩⟩
          | tup ds =>
            cases e2
            refine (pe_callTy call_tuple_of (gl_of h.c mg) (h.f.bl _ (by simp [pname])) (by decide +kernel) pa_wp (he := star_cons mc [] X.env) (hpl := rfl)).wp (arg h ec mc e1 fun v g' H' xt r => ?_)
            obtain ⟨a, vs, rfl, h1, hl⟩ := RepR.tuple xt.ok r
            exact ⟨a, vs, rfl, .inr ⟨h1, (q.ext xt).now xt.ok r⟩⟩
          | _ => cases e2
        | _ => cases hp
      · -- isinstance
        obtain ⟨b, t, rfl, et, ek⟩ := isi_kit e2 hp
        have hpn : pname p = "isinstance" := by cases p <;> first | rfl | cases hp
        have hx : x ∈ ([("len" : Str), "abs", "int", "list", "tuple", "isinstance", "range", "bool", "str"] : List Str) ∧ bootBuiltins x = some (.type cn) ∧ x ≠ "__name__" ∧ (x == ("__debug__" : Str)) = false := by
          cases p <;> cases hp <;> exact ⟨by decide +kernel, by decide +kernel, by decide +kernel, by decide +kernel⟩
        rw [hpn] at mg ⊢
        have pz : PE X (.Name x p3) (tC (.ty cn)) := pe_bltn (gl_of h.c gx) (h.f.bl _ hx.1) hx.2.1 rfl hx.2.2.1 hx.2.2.2
        refine (pe_callB call_isi (gl_of h.c mg) (h.f.bl _ (by simp)) (by decide +kernel) (pa_cons pe_wp (pa_cons pz pa_nil (by rfl)) (star_cons mc _ X.env)) (he := star_cons mc _ X.env) (hpl := by rfl)).wp ?_
        refine hs c ec h mc e1 _ fun v g' H' xt r => ?_
        exact ⟨v, .ty cn, .type t, .type cn, b, rfl, .ty cn, dTy_ty xt.ok r et, kit_ty ek, (q.ext xt).now xt.ok (.of (.bl _))⟩
  · obtain ⟨y, ys, p1, p2, rfl, mg, c, ec, mc, alt⟩ := txt m
    obtain ⟨dc, e1, ⟨hp, xs, el, e'⟩ | e2⟩ := ev ec e
    · cases e'
      exact lst h m ec e1 hp el Q q
    · exact (primD_lst e2).elim
end
end MP

set_option maxHeartbeats 1000000
/-! MiniPy: what is walked, targets, comprehensions. -/
namespace MP
open PySem PySem.Spec PyProof.Rows L2
section
variable {ob : Ob} {Φ : Nat → List D → Option D} {X : Cx} {Γ : Gam} {k : Nat} {g : Gh} {H : Hp} {σ : L2.St} {ρ : Rho}
/-- an iterator gives these data, whatever else happens to the heap, as long as it only grows -/
def Enum (ob : Ob) (K : PySem.W.Frag) (J : L2.It) (g : Gh) (H : Hp) (ds : List D) : Prop := ∀ g1 H1, Ext ob g H g1 H1 → ∀ i : Nat,
  (∀ d, ds[i]? = some d → J.go i H1 ∧ ∀ v H2, J.yld i H1 v H2 → ∃ g2, Ext ob g1 H1 g2 H2 ∧ Rep K g2 v d) ∧ (ds.length ≤ i → J.stop i H1)
/-- .. whatever happens to what is not frozen -/
def EnumF (ob : Ob) (K : PySem.W.Frag) (J : L2.It) (g : Gh) (ds : List D) : Prop := ∀ g1 H1, g.le g1 → WOk ob g1 H1 → ∀ i : Nat,
  (∀ d, ds[i]? = some d → J.go i H1 ∧ ∀ v H2, J.yld i H1 v H2 → ∃ g2, Ext ob g1 H1 g2 H2 ∧ Rep K g2 v d) ∧ (ds.length ≤ i → J.stop i H1)
theorem EnumF.en {J : L2.It} {ds : List D} {K : PySem.W.Frag} (h : EnumF ob K J g ds) : Enum ob K J g H ds := fun g1 H1 x => h g1 H1 x.le x.ok
def SndIt (ob : Ob) (Φ : Nat → List D → Option D) (c : It) : Prop := ∀ {X : Cx} {Γ : Gam} {k : Nat} {tg ix : Expr} {g : Gh} {H : Hp} {σ : L2.St} {ρ : Rho} {ds : List D}, Here ob Φ X Γ k g H σ ρ → mIt Γ c ix = true →
  (evIt Φ c ρ = some ds → ∀ R : L2.It → Hp → Prop, (∀ J g' H', Ext ob g H g' H' → Enum ob X.K J g' H' ds → R J H') → wpI X tg ix σ H R) ∧
  (evItF Φ c ρ = some ds → ∀ R : L2.It → Hp → Prop, (∀ J g' H', Ext ob g H g' H' → EnumF ob X.K J g' ds → R J H') → wpI X tg ix σ H R)
theorem enum_list {K : PySem.W.Frag} {a : Addr} {xs : List V} {ds : List D} (g0 : Gh) (hl : RepL K g0 xs ds) {g1 : Gh} {H1 : Hp} (le : g0.le g1) (w : WOk ob g1 H1) (hs' : SqL K H1 a xs) (i : Nat) :
    (∀ d, ds[i]? = some d → (Itl K a).go i H1 ∧ ∀ v H2, (Itl K a).yld i H1 v H2 → ∃ g2, Ext ob g1 H1 g2 H2 ∧ Rep K g2 v d) ∧ (ds.length ≤ i → (Itl K a).stop i H1) := by
  refine ⟨fun d e => ?_, fun n => ⟨xs, hs', by rw [hl.len]; exact n⟩⟩
  obtain ⟨v, hv, r⟩ := hl.get e
  refine ⟨⟨xs, v, hs', hv⟩, fun v' H2 y => ?_⟩
  obtain ⟨rfl, y⟩ := y
  have e1 := y xs hs'
  rw [hv] at e1
  cases e1
  exact ⟨g1, Ext.refl w, Rep.mono le _ _ r⟩
theorem enum_tup {K : PySem.W.Frag} {a : Addr} {xs : List V} {ds : List D} (g0 : Gh) (hl : RepL K g0 xs ds) {g1 : Gh} {H1 : Hp} (le : g0.le g1) (w : WOk ob g1 H1) (hs' : SqT K H1 a xs) (i : Nat) :
    (∀ d, ds[i]? = some d → (Itt K a).go i H1 ∧ ∀ v H2, (Itt K a).yld i H1 v H2 → ∃ g2, Ext ob g1 H1 g2 H2 ∧ Rep K g2 v d) ∧ (ds.length ≤ i → (Itt K a).stop i H1) := by
  refine ⟨fun d e => ?_, fun n => ⟨xs, hs', by rw [hl.len]; exact n⟩⟩
  obtain ⟨v, hv, r⟩ := hl.get e
  refine ⟨⟨xs, v, hs', hv⟩, fun v' H2 y => ?_⟩
  obtain ⟨rfl, y⟩ := y
  have e1 := y xs hs'
  rw [hv] at e1
  cases e1
  exact ⟨g1, Ext.refl w, Rep.mono le _ _ r⟩
theorem rng_get {lo hi : Int} {i : Nat} {d : D} (e : (rng lo hi)[i]? = some d) : i < (hi - lo).toNat ∧ d = .int (lo + (i : Int)) := by
  unfold rng at e
  rw [List.getElem?_map] at e
  cases h : (List.range (hi - lo).toNat)[i]? with
  | none => rw [h] at e; cases e
  | some j =>
    rw [h] at e
    obtain ⟨h1, h2⟩ := List.getElem?_eq_some_iff.mp h
    simp at h1 h2
    subst h2
    cases e
    exact ⟨by omega, rfl⟩
theorem rng_len (lo hi : Int) : (rng lo hi).length = (hi - lo).toNat := by simp [rng]
theorem enum_rng {K : PySem.W.Frag} (lo hi : Int) : EnumF ob K (Itr lo (hi - lo).toNat) g (rng lo hi) := fun g1 H1 le w i => by
  refine ⟨fun d e => ?_, fun n => by rw [rng_len] at n; exact n⟩
  obtain ⟨h1, rfl⟩ := rng_get e
  refine ⟨h1, fun v H2 y => ?_⟩
  obtain ⟨rfl, rfl⟩ := y
  exact ⟨g1, Ext.refl w, .int _⟩
theorem okRng_of {i : Int} (h : okRng i = true) : -(2 ^ 62) ≤ i ∧ i < 2 ^ 62 := by
  unfold okRng at h
  obtain ⟨h1, h2⟩ := and2 h
  exact ⟨of_decide_eq_true h1, of_decide_eq_true h2⟩
theorem snd_rng1 {a : E} (ha : SndN ob Φ a) : SndIt ob Φ (.rng1 a) := by
  refine fun {X Γ k tg ix g H σ ρ ds} h m => ?_
  have key : evIt Φ (.rng1 a) ρ = some ds → ∀ R : L2.It → Hp → Prop, (∀ J g' H', Ext ob g H g' H' → EnumF ob X.K J g' ds → R J H') → wpI X tg ix σ H R := by
    intro e R q
    simp only [evIt] at e
    split at e
    · rename_i j ea
      split at e
      · rename_i hj
        cases e
        cases ix with
        | Call fn xs kws p =>
          cases fn with
          | Name x p2 =>
            match xs, kws, m with
            | [y], [], m =>
              obtain ⟨m1, m3⟩ := and2 (show (decide (x = ("range" : Str)) && glB Γ.sc x && mE Γ a y) = true from m)
              obtain ⟨m1, m2⟩ := and2 m1
              obtain rfl := of_decide_eq_true m1
              refine (pi_range1 (gl_of h.c m2) (h.f.bl _ (by simp)) (pa_cons pe_wp pa_nil (star_cons m3 [] X.env)) (star_cons m3 [] X.env)).wp (ha h m3 ea _ fun v g1 H1 x1 r1 => ?_)
              cases (show Rep _ _ _ _ from r1)
              refine ⟨j, rfl, (okRng_of hj).1, (okRng_of hj).2, ?_⟩
              have := q (Itr 0 j.toNat) g1 H1 x1 (by
                have := enum_rng (ob := ob) (K := X.K) (g := g1) 0 j
                rw [Int.sub_zero] at this
                exact this)
              exact this
          | _ => cases m
        | _ => cases m
      · cases e
    · cases e
  exact ⟨fun e R q => key e R fun J g' H' x y => q J g' H' x y.en, fun e => key e⟩
theorem snd_rng2 {a b : E} (ha : SndN ob Φ a) (hb : SndN ob Φ b) : SndIt ob Φ (.rng2 a b) := by
  refine fun {X Γ k tg ix g H σ ρ ds} h m => ?_
  have key : evIt Φ (.rng2 a b) ρ = some ds → ∀ R : L2.It → Hp → Prop, (∀ J g' H', Ext ob g H g' H' → EnumF ob X.K J g' ds → R J H') → wpI X tg ix σ H R := by
    intro e R q
    simp only [evIt] at e
    split at e
    · rename_i i j ea eb
      split at e
      · rename_i hj
        cases e
        obtain ⟨hi, hj⟩ := and2 hj
        cases ix with
        | Call fn xs kws p =>
          cases fn with
          | Name x p2 =>
            match xs, kws, m with
            | [y, z], [], m =>
              obtain ⟨m1, m4⟩ := and2 (show (decide (x = ("range" : Str)) && glB Γ.sc x && mE Γ a y && mE Γ b z) = true from m)
              obtain ⟨m1, m3⟩ := and2 m1
              obtain ⟨m1, m2⟩ := and2 m1
              obtain rfl := of_decide_eq_true m1
              refine (pi_range2 (gl_of h.c m2) (h.f.bl _ (by simp)) (pa_cons pe_wp (pa_cons pe_wp pa_nil (star_cons m4 [] X.env)) (star_cons m3 _ X.env)) (by rw [star_cons m3, star_cons m4]; rfl) (star_cons m4 [] X.env)).wp ?_
              refine ha h m3 ea _ fun v g1 H1 x1 r1 => hb (h.ext x1) m4 eb _ fun u g2 H2 x2 r2 => ?_
              cases (show Rep _ _ _ _ from r1)
              cases (show Rep _ _ _ _ from r2)
              exact ⟨i, j, rfl, ⟨(okRng_of hi).1, (okRng_of hi).2, (okRng_of hj).1, (okRng_of hj).2⟩, q _ g2 H2 (x1.trans x2) (enum_rng i j)⟩
          | _ => cases m
        | _ => cases m
      · cases e
    · cases e
  exact ⟨fun e R q => key e R fun J g' H' x y => q J g' H' x y.en, fun e => key e⟩
theorem mIt_seq {a : E} {ix : Expr} (m : mIt Γ (.seq a) ix = true) : mE Γ a ix = true := by
  simpa only [mIt] using m
theorem snd_seq {a : E} (ha : SndN ob Φ a) : SndIt ob Φ (.seq a) := by
  refine fun {X Γ k tg ix g H σ ρ ds} h m => ?_
  have m' := mIt_seq m
  refine ⟨fun e R q => ?_, fun e R q => ?_⟩
  · simp only [evIt] at e
    split at e
    · rename_i d ea
      cases d with
      | lst es =>
        cases e
        refine (pi_list pe_wp).wp (ha h m' ea _ fun v g1 H1 x1 r1 => ?_)
        obtain ⟨b, xs, rfl, rb, rl⟩ := RepR.list x1.ok r1 rfl
        refine ⟨b, rfl, ⟨xs, rb⟩, q _ g1 H1 x1 ?_⟩
        cases (show Rep _ _ _ _ from r1) with
        | lst hs hl => exact fun g2 H2 y i => enum_list g1 hl y.le y.ok (sql_le y.ok.f (sql_le y.le.f hs)) i
      | own es =>
        cases e
        refine (pi_list pe_wp).wp (ha h m' ea _ fun v g1 H1 x1 r1 => ?_)
        obtain ⟨b, xs, rfl, hb, hf, hB, rl⟩ := r1
        exact ⟨b, rfl, ⟨xs, .of hb⟩, q _ g1 H1 x1 fun g2 H2 y i => enum_list g1 rl y.le y.ok (.of (y.keep _ _ hb hB)) i⟩
      | tup es =>
        cases e
        refine (pi_tup pe_wp).wp (ha h m' ea _ fun v g1 H1 x1 r1 => ?_)
        obtain ⟨b, xs, rfl, rb, rl⟩ := RepR.tuple x1.ok r1
        refine ⟨b, rfl, ⟨xs, rb⟩, q _ g1 H1 x1 ?_⟩
        cases (show Rep _ _ _ _ from r1) with
        | tup hs hl => exact fun g2 H2 y i => enum_tup g1 hl y.le y.ok (sqt_le y.ok.f (sqt_le y.le.f hs)) i
      | _ => cases e
    · cases e
  · unfold evItF at e
    simp only at e
    split at e
    · rename_i d ea
      obtain ⟨ea, nd⟩ := pure_some ea
      cases d with
      | lst es =>
        cases e
        refine (pi_list pe_wp).wp (ha h m' ea _ fun v g1 H1 x1 r1 => ?_)
        obtain ⟨b, xs, rfl, rb, rl⟩ := RepR.list x1.ok r1 rfl
        refine ⟨b, rfl, ⟨xs, rb⟩, q _ g1 H1 x1 ?_⟩
        cases (show Rep _ _ _ _ from r1) with
        | lst hs hl => exact fun g2 H2 le w i => enum_list g1 hl le w (sql_le w.f (sql_le le.f hs)) i
      | own es => cases nd
      | tup es =>
        cases e
        refine (pi_tup pe_wp).wp (ha h m' ea _ fun v g1 H1 x1 r1 => ?_)
        obtain ⟨b, xs, rfl, rb, rl⟩ := RepR.tuple x1.ok r1
        refine ⟨b, rfl, ⟨xs, rb⟩, q _ g1 H1 x1 ?_⟩
        cases (show Rep _ _ _ _ from r1) with
        | tup hs hl => exact fun g2 H2 le w i => enum_tup g1 hl le w (sqt_le w.f (sqt_le le.f hs)) i
      | _ => cases e
    · cases e
/-! ### targets -/
def setV (σ : L2.St) (ps : List (Nat × V)) : L2.St := ps.foldl (fun s p => s.set p.1 (some p.2)) σ
def gNames : List Nat → TGs
  | [] => gNil
  | j :: js => gCons (gName j) (gNames js)
theorem assign_len : ∀ (js : List Nat) (ts : List Expr) (env : Env), mTgs Γ js ts = true → (assignEach ts env).length = js.length ∧ (assignEach ts env).findIdx? (·.1) = none
  | [], [], _, _ => ⟨rfl, rfl⟩
  | [], _ :: _, _, m => by cases m
  | _ :: _, [], _, m => by cases m
  | j :: js, t :: ts, env, m => by
    cases t with
    | Name x p =>
      obtain ⟨m1, m2⟩ := and2 (show (tgB Γ j x && mTgs Γ js ts) = true from m)
      obtain ⟨h1, h2⟩ := assign_len js ts env m2
      refine ⟨congrArg Nat.succ h1, ?_⟩
      show List.findIdx? (·.1) ((false, assign (.Name x p) env) :: assignEach ts env) = none
      rw [List.findIdx?_cons]
      simp [h2]
    | _ => cases m
theorem pg_one (c : Ctx X Γ) {j : Nat} {x : Str} {p : Pos} (m : tgB Γ j x = true) : PG X (.Name x p) (gName j) := by
  unfold tgB nameAt at m
  obtain ⟨m1, m2⟩ := and2 m
  obtain ⟨h1, h2⟩ := loc_of c m2
  exact pg_name (by rw [c.N]; exact c.nd) (by rw [c.N]; exact of_decide_eq_true m1) h1 h2
theorem pgs_names (c : Ctx X Γ) : ∀ (js : List Nat) (ts : List Expr), mTgs Γ js ts = true → PGs X ts (gNames js)
  | [], [], _ => pgs_nil
  | [], _ :: _, m => by cases m
  | _ :: _, [], m => by cases m
  | j :: js, t :: ts, m => by
    cases t with
    | Name x p =>
      obtain ⟨m1, m2⟩ := and2 (show (tgB Γ j x && mTgs Γ js ts) = true from m)
      exact pgs_cons (pg_one c m1) (pgs_names c js ts m2) rfl
    | _ => cases m
theorem gNames_of {Q : L2.St → Hp → Prop} : ∀ (js : List Nat) (vs : List V) (σ : L2.St), vs.length = js.length → Q (setV σ (js.zip vs)) H → gNames js vs σ H Q
  | [], [], _, _, q => ⟨rfl, q⟩
  | [], _ :: _, _, l, _ => by cases l
  | _ :: _, [], _, l, _ => by cases l
  | j :: js, v :: vs, σ, l, q => ⟨v, vs, rfl, gNames_of js vs _ (Nat.succ.inj l) q⟩
theorem slots_names {K : PySem.W.Frag} {wd : World} : ∀ (js : List Nat) (vs : List V) (ds : List D) (σ : L2.St) (ρ : Rho), RepL K g vs ds → Slots K wd g H σ ρ → Slots K wd g H (setV σ (js.zip vs)) ((js.zip ds).foldl (fun r p => r.set p.1 (.val p.2)) ρ)
  | [], _, _, _, _, _, s => s
  | _ :: _, _, _, _, _, .nil, s => s
  | j :: js, _, _, σ, ρ, .cons r rl, s => slots_names js _ _ _ _ rl (s.setVal j r)
theorem setTg_one {j : Nat} {d : D} {ρ' : Rho} (e : setTg [j] d ρ = some ρ') : ρ' = ρ.set j (.val d) := by
  unfold setTg at e
  cases e
  rfl
theorem setTg_more {j i : Nat} {js : List Nat} {d : D} {ρ' : Rho} (e : setTg (j :: i :: js) d ρ = some ρ') : ∃ ds, d = .tup ds ∧ ds.length = (j :: i :: js).length ∧ ρ' = ((j :: i :: js).zip ds).foldl (fun r p => r.set p.1 (.val p.2)) ρ := by
  cases d with
  | tup ds =>
    have e' : (if decide (ds.length = (j :: i :: js).length) = true then some (((j :: i :: js).zip ds).foldl (fun r p => r.set p.1 (.val p.2)) ρ) else none) = some ρ' := e
    split at e'
    · rename_i h
      cases e'
      exact ⟨ds, rfl, of_decide_eq_true h, rfl⟩
    · cases e'
  | _ => cases e
theorem snd_tg (c : Ctx X Γ) {tg : List Nat} {e : Expr} (m : mTg Γ tg e = true) (w : WOk ob g H) (s : Slots X.K X.w g H σ ρ) {v : V} {d : D} (r : Rep X.K g v d) {ρ' : Rho} (es : setTg tg d ρ = some ρ') :
    ∀ Q, (∀ σ', Slots X.K X.w g H σ' ρ' → (∃ ps : List (Nat × V), (∀ p ∈ ps, p.1 ∈ tg) ∧ σ' = setV σ ps) → Q σ' H) → wpG X e v σ H Q := by
  intro Q q
  cases e with
  | Name x p =>
    match tg, m with
    | [j], m =>
      have := setTg_one es
      subst this
      refine (pg_one c m).wp (q _ (s.setVal j r) ⟨[(j, v)], fun p hp => ?_, rfl⟩)
      simp only [List.mem_singleton] at hp
      subst hp
      exact List.mem_singleton.mpr rfl
  | Tuple ts kk p =>
    match tg, m with
    | j :: i :: js, m =>
      obtain ⟨ds, rfl, hl, rfl⟩ := setTg_more es
      have m' : mTgs Γ (j :: i :: js) ts = true := m
      obtain ⟨h1, h2⟩ := assign_len _ _ X.env m'
      obtain ⟨a, xs, rfl, hs, rl⟩ := RepR.tuple w (.of r)
      refine (pg_tup c.calm (pgs_names c _ _ m') h1 h2).wp ⟨a, xs, rfl, hs, by rw [rl.len, hl], ?_⟩
      refine gNames_of _ _ _ (by rw [rl.len, hl]) (q _ (slots_names _ _ _ _ _ rl s) ⟨_, fun p hp => (List.of_mem_zip hp).1, rfl⟩)
  | _ => cases m
theorem wipe_set {own : List Nat} {σ : L2.St} {j : Nat} {v : Option V} (h : j ∈ own) : wipe (σ.set j v) own = wipe σ own := by
  induction own with
  | nil => cases h
  | cons i own ih =>
    show (wipe (σ.set j v) own).set i none = (wipe σ own).set i none
    by_cases hj : j ∈ own
    · rw [ih hj]
    · have hi : j = i := by
        rcases List.mem_cons.mp h with h | h
        · exact h
        · exact absurd h hj
      subst hi
      have : ∀ (own : List Nat), j ∉ own → wipe (σ.set j v) own = (wipe σ own).set j v := by
        intro own
        induction own with
        | nil => intro _; rfl
        | cons i own ih2 =>
          intro hn
          have n1 : j ≠ i := fun z => hn (by rw [z]; exact List.mem_cons_self)
          have n2 : j ∉ own := fun z => hn (List.mem_cons_of_mem _ z)
          show (wipe (σ.set j v) own).set i none = ((wipe σ own).set i none).set j v
          rw [ih2 n2, List.set_comm _ _ n1]
      rw [this own hj, List.set_set]
theorem wipe_setV {own : List Nat} : ∀ {ps : List (Nat × V)} {σ : L2.St}, (∀ p ∈ ps, p.1 ∈ own) → wipe (setV σ ps) own = wipe σ own
  | [], _, _ => rfl
  | p :: ps, σ, h => by
    show wipe (setV (σ.set p.1 (some p.2)) ps) own = _
    rw [wipe_setV fun q hq => h q (List.mem_cons_of_mem _ hq), wipe_set (h p List.mem_cons_self)]
theorem wipe_idem {own : List Nat} {σ : L2.St} : wipe (wipe σ own) own = wipe σ own := by
  have : ∀ (own' : List Nat), (∀ j ∈ own', j ∈ own) → wipe (wipe σ own') own = wipe σ own := by
    intro own'
    induction own' with
    | nil => intro _; rfl
    | cons j own' ih =>
      intro h
      show wipe ((wipe σ own').set j none) own = _
      rw [wipe_set (h j List.mem_cons_self), ih fun i hi => h i (List.mem_cons_of_mem _ hi)]
  exact this own fun _ h => h
end
end MP

set_option maxHeartbeats 1000000
/-! MiniPy: comprehensions. -/
namespace MP
open PySem PySem.Spec PyProof.Rows L2
section
variable {ob : Ob} {Φ : Nat → List D → Option D} {X : Cx} {Γ : Gam} {k : Nat} {g : Gh} {H : Hp} {σ : L2.St} {ρ : Rho}
def wpTs (X : Cx) (ifs : List Expr) : TT := fun σ H Q => ∀ (pins : List (Addr × Obj)) (s : Shared), Inv X pins σ H s →
  wpAny (model X.prog X.w) X.A (forIn ifs true fun c r => if r = true then do let ok ← isTrue c X.env (eval c X.env); pure (ForInStep.yield ok) else pure (ForInStep.yield r)) (TP X pins σ Q) X.xe s
theorem pts_wp {ifs : List Expr} : PTs X ifs (wpTs X ifs) := ⟨fun pins s _ _ _ I h => h pins s I⟩
theorem pts_to {ifs : List Expr} {t : TT} (h : PTs X ifs t) {σ : L2.St} {H : Hp} {Q : Bool → Hp → Prop} (q : t σ H Q) : wpTs X ifs σ H Q := fun pins s I => h.run pins s σ H Q I q
def SndTs1 (ob : Ob) (Φ : Nat → List D → Option D) (c : Ts) : Prop := ∀ {X : Cx} {Γ : Gam} {k : Nat} {xs : List Expr} {g : Gh} {H : Hp} {σ : L2.St} {ρ : Rho} {b : Bool}, Here ob Φ X Γ k g H σ ρ → mTs Γ c xs = true → xs.length ≤ 1 → evTs Φ c ρ = some b → ∀ Q, PostB ob g H b Q → wpTs X xs σ H Q
theorem snd_ts1_nil : SndTs1 ob Φ .nil := by
  refine fun {X Γ k xs g H σ ρ b} h m l e Q q => ?_
  cases xs with
  | nil =>
    cases (show some true = some b from e)
    exact pts_to pts_nil (q.now h.w)
  | cons _ _ => cases m
theorem snd_ts1_cons {t : T} {ts : Ts} (ht : SndT ob Φ t) : SndTs1 ob Φ (.cons t ts) := by
  refine fun {X Γ k xs g H σ ρ b} h m l e Q q => ?_
  cases xs with
  | nil => cases m
  | cons x xs =>
    obtain ⟨m1, m2⟩ := and2 (show (mT Γ t x && mTs Γ ts xs) = true from m)
    have : xs = [] := by
      cases xs with
      | nil => rfl
      | cons _ _ => simp at l
    subst this
    exact pts_to (pts_one pt_wp) (ht h m1 (by simpa only [evTs] using e) Q q)
/-- within a comprehension's block -/
abbrev Gam.blk (Γ : Gam) (scope : Scope) : Gam := { Γ with sc := relS scope Γ.sc, fnc := some scope }
theorem ctx_blk (c : Ctx X Γ) {scope : Scope} (hk : scope.kind = .function) (s : Shared) (H : Hp) (C : Addr) (cl : List (Str × Addr)) (fp : List Addr) : Ctx (X.blk s H scope (compEnvC scope cl C X.env) fp) (Γ.blk scope) :=
  ⟨c.N, by
    show relS scope X.env.scope = relS scope Γ.sc
    rw [c.sc], fun x => rfl, c.nd, c.calm, rfl, hk⟩
theorem fns_blk (f : Fns ob Φ X Γ k) {scope : Scope} (s : Shared) (H : Hp) (C : Addr) (cl : List (Str × Addr)) (fp : List Addr) : Fns ob Φ (X.blk s H scope (compEnvC scope cl C X.env) fp) (Γ.blk scope) k :=
  ⟨f.room, f.fn, f.bl⟩
theorem own_snd (N : List Str) (own : List Nat) : (ownL N own).map (·.2) = own := by
  unfold ownL
  rw [List.map_map]
  induction own with
  | nil => rfl
  | cons j own ih => exact congrArg (j :: ·) ih
theorem evE_comp {elt : E} {tg : List Nat} {it : It} {ts : Ts} {own : List Nat} {d : D} (e : evE Φ (.comp elt tg it ts own) ρ = some d) :
    ∃ ds es, evIt Φ it ρ = some ds ∧ compM (stepC Φ elt tg ts own ρ) ds = some es ∧ es.length ≤ line ∧ d = .lst es := by
  simp only [evE] at e
  split at e
  · rename_i ds e1
    refine ⟨ds, ?_⟩
    split at e
    · rename_i es e2
      split at e
      · rename_i hl
        cases e
        exact ⟨es, e1, e2, of_decide_eq_true hl, rfl⟩
      · cases e
    · cases e
  · cases e
theorem compM_at {f : D → Option (Option D)} {ds : List D} {i : Nat} {es : List D} (h : compM f (ds.drop i) = some es) :
    (ds.length ≤ i ∧ es = []) ∨ ∃ d o rest, ds[i]? = some d ∧ f d = some o ∧ compM f (ds.drop (i + 1)) = some rest ∧ es = (match o with | some e => e :: rest | none => rest) := by
  by_cases hi : i < ds.length
  · right
    rw [List.drop_eq_getElem_cons hi] at h
    unfold compM at h
    split at h
    · cases h
    · rename_i o e1
      split at h
      · cases h
      · rename_i rest e2
        cases h
        exact ⟨ds[i], o, rest, List.getElem?_eq_getElem hi, e1, e2, rfl⟩
  · left
    rw [List.drop_eq_nil_of_le (by omega)] at h
    cases h
    exact ⟨by omega, rfl⟩
/-- the reading of a comprehension -/
theorem lc_read {elt : E} {tg : List Nat} {it : It} {ts : Ts} {own : List Nat} (hi : SndIt ob Φ it) (he : SndN ob Φ elt) (ht : SndTs1 ob Φ ts)
    {y tx ix : Expr} {ifs : List Expr} {scope : Scope} (h : Here ob Φ X Γ k g H σ ρ) (mi : mIt Γ it ix = true) (me : mE (Γ.blk scope) elt y = true) (mt : mTg (Γ.blk scope) tg tx = true) (mo : ∀ j ∈ tg, j ∈ own) (ms : mTs (Γ.blk scope) ts ifs = true) (ml : ifs.length ≤ 1)
    (hk : scope.kind = .function) {es ds : List D} (e1 : evIt Φ it ρ = some ds) (e2 : compM (stepC Φ elt tg ts own ρ) ds = some es) (hl : es.length ≤ line) {Q : VK} (q : PostL ob X.K g H es Q) :
    tLc (wpI X tx ix) (fun v σ H Q => ∀ (s : Shared) (H0 : Hp) (C : Addr) (cl : List (Str × Addr)) (fp : List Addr), wpG (X.blk s H0 scope (compEnvC scope cl C X.env) fp) tx v σ H Q)
      (fun σ H Q => ∀ (s : Shared) (H0 : Hp) (C : Addr) (cl : List (Str × Addr)) (fp : List Addr), wpTs (X.blk s H0 scope (compEnvC scope cl C X.env) fp) ifs σ H Q)
      (fun σ H Q => ∀ (s : Shared) (H0 : Hp) (C : Addr) (cl : List (Str × Addr)) (fp : List Addr), wpE (X.blk s H0 scope (compEnvC scope cl C X.env) fp) y σ H Q) own σ H Q := by
  refine (hi h mi).1 e1 _ fun J g1 H1 x1 en A0 hD => ?_
  have h1 := h.ext x1
  refine ⟨fun i m H' => m = ds.length - i ∧ i ≤ ds.length ∧ ∃ (g' : Gh) (xs : List V) (es' rest : List D), Ext ob g1 H1 g' H' ∧ H' A0 = some (.lst xs) ∧ g'.F A0 = none ∧ g'.B A0 = none ∧ RepL X.K g' xs es' ∧ compM (stepC Φ elt tg ts own ρ) (ds.drop i) = some rest ∧ es = es' ++ rest,
    ⟨ds.length, by simp, Nat.zero_le _, g1, [], [], es, Ext.own x1.ok hD, upd_same, (x1.ok.fresh hD).1, (x1.ok.fresh hD).2, .nil, e2, rfl⟩, ?_⟩
  rintro i m H' ⟨rfl, hi', g', xs, es', rest, xt, hx, hf, hb, rl, ec, ee⟩
  rcases compM_at ec with ⟨hn, hr⟩ | ⟨d, o, rest', ed, eo, er, hr⟩
  · -- the end
    subst hr
    rw [List.append_nil] at ee
    subst ee
    exact .inl ⟨(en g' H' xt i).2 hn, q A0 xs g' H' (x1.trans xt) (x1.back hD) hx hf hb rl⟩
  · -- a turn
    obtain ⟨go, yld⟩ := (en g' H' xt i).1 d ed
    refine .inr ⟨go, fun H2 => i + 1 ≤ ds.length ∧ ∃ (g' : Gh) (xs : List V) (es' rest : List D), Ext ob g1 H1 g' H2 ∧ H2 A0 = some (.lst xs) ∧ g'.F A0 = none ∧ g'.B A0 = none ∧ RepL X.K g' xs es' ∧ compM (stepC Φ elt tg ts own ρ) (ds.drop (i + 1)) = some rest ∧ es = es' ++ rest,
      fun H2 hN => ⟨ds.length - (i + 1), by have := (List.getElem?_eq_some_iff.mp ed).1; omega, rfl, hN⟩, fun v H2 y2 => ?_⟩
    have hlt := (List.getElem?_eq_some_iff.mp ed).1
    obtain ⟨g2, x2, r2⟩ := yld v H2 y2
    unfold stepC at eo
    split at eo
    · rename_i ρ' e3
      intro s0 H0 C cl fp
      have c' := ctx_blk h.c hk s0 H0 C cl fp
      have h2 : Slots X.K X.w g2 H2 (wipe σ own) (wipeR ρ own) := ((h1.ext xt).ext x2).s.wipe own
      refine snd_tg c' mt x2.ok h2 r2 e3 _ fun σ' s' ⟨ps, hps, hσ⟩ => ⟨?_, fun s0' H0' C' cl' fp' => ?_⟩
      · rw [hσ, wipe_setV fun p hp => mo _ (hps p hp), wipe_idem]
      · have here' : Here ob Φ (X.blk s0' H0' scope (compEnvC scope cl' C' X.env) fp') (Γ.blk scope) k g2 H2 σ' ρ' := ⟨ctx_blk h.c hk s0' H0' C' cl' fp', fns_blk h.f s0' H0' C' cl' fp', x2.ok, s'⟩
        have hx2 := x2.keep A0 _ hx hb
        have hf2 := x2.nF A0 _ hx hf
        have hb2 := x2.nB A0 _ hx hb
        split at eo
        · -- the test is true
          rename_i e4
          split at eo
          · rename_i dd e5
            cases eo
            obtain ⟨e5, np⟩ := pure_some e5
            refine ht here' ms ml e4 _ fun g3 H3 x3 => ?_
            show (if true = true then _ else _)
            rw [if_pos rfl]
            intro s0'' H0'' C'' cl'' fp''
            have here'' : Here ob Φ (X.blk s0'' H0'' scope (compEnvC scope cl'' C'' X.env) fp'') (Γ.blk scope) k g3 H3 σ' ρ' := ⟨ctx_blk h.c hk s0'' H0'' C'' cl'' fp'', fns_blk h.f s0'' H0'' C'' cl'' fp'', x3.ok, s'.ext x3⟩
            refine he here'' me e5 _ fun w g4 H4 x4 r4 => ?_
            have x24 := x3.trans x4
            have xx := xt.trans (x2.trans x24)
            have hx4 := x24.keep A0 _ hx2 hb2
            have hf4 := x24.nF A0 _ hx2 hf2
            have hb4 := x24.nB A0 _ hx2 hb2
            have rl4 := RepL.mono (x2.trans x24).le _ _ rl
            refine ⟨xs, hx4, ?_, by omega, g4, xs ++ [w], es' ++ [dd], rest', xx.write hD hf4 hb4, upd_same, hf4, hb4, rl4.append (.cons (r4.pure np) .nil), er, ?_⟩
            · rw [rl.len, ← line_eq]
              have : es.length = es'.length + rest.length := by rw [ee, List.length_append]
              rw [hr] at this
              simp only [List.length_cons] at this
              omega
            · rw [ee, hr]
              simp
          · cases eo
        · -- it is false
          rename_i e4
          cases eo
          refine ht here' ms ml e4 _ fun g3 H3 x3 => ?_
          show (if false = true then _ else _)
          rw [if_neg (by decide)]
          refine ⟨by omega, g3, xs, es', rest', xt.trans (x2.trans x3), x3.keep A0 _ hx2 hb2, x3.nF A0 _ hx2 hf2, x3.nB A0 _ hx2 hb2, RepL.mono (x2.trans x3).le _ _ rl, er, ?_⟩
          rw [ee, hr]
        · cases eo
    · cases eo
/-- what is asked of a comprehension's text -/
theorem comp_txt {elt : E} {tg : List Nat} {it : It} {ts : Ts} {own : List Nat} {ex : Expr} (m : mE Γ (.comp elt tg it ts own) ex = true) : ∃ y tx ix ifs scope p, ex = .ListComp y [⟨tx, ix, ifs, 0⟩] scope p ∧
    blkC Γ.N Γ.sc scope (ownL Γ.N own) = true ∧ mIt Γ it ix = true ∧ mE (Γ.blk scope) elt y = true ∧ mTg (Γ.blk scope) tg tx = true ∧ (∀ j ∈ tg, j ∈ own) ∧ mTs (Γ.blk scope) ts ifs = true ∧ ifs.length ≤ 1 := by
  cases ex with
  | ListComp y gs scope p =>
    match gs, m with
    | [⟨tx, ix, ifs, a⟩], m =>
      have m' : (decide (a = 0) && blkC Γ.N Γ.sc scope (ownL Γ.N own) && mIt Γ it ix && (mE (Γ.blk scope) elt y && mTg (Γ.blk scope) tg tx && tg.all (fun j => decide (j ∈ own)) && mTs (Γ.blk scope) ts ifs && decide (ifs.length ≤ 1))) = true := m
      obtain ⟨m1, m2⟩ := and2 m'
      obtain ⟨m1, m3⟩ := and2 m1
      obtain ⟨m1, m4⟩ := and2 m1
      obtain ⟨m2, m5⟩ := and2 m2
      obtain ⟨m2, m6⟩ := and2 m2
      obtain ⟨m2, m7⟩ := and2 m2
      obtain ⟨m2, m8⟩ := and2 m2
      obtain rfl := of_decide_eq_true m1
      exact ⟨y, tx, ix, ifs, scope, p, rfl, m4, m3, m2, m8, fun j hj => of_decide_eq_true (List.all_eq_true.mp m7 j hj), m6, of_decide_eq_true m5⟩
  | _ => cases m
theorem mIt_set {it : It} {ix : Expr} (m : mIt Γ it ix = true) (env : Env) (x : Value) : foldedSetIterable ix env x = pure x := by
  cases it with
  | seq a => exact not_set (mIt_seq m) env x
  | rng1 a => cases ix <;> first | rfl | cases m
  | rng2 a b => cases ix <;> first | rfl | cases m
theorem blk_of (c : Ctx X Γ) {scope : Scope} {own : List Nat} (h : blkC Γ.N Γ.sc scope (ownL Γ.N own) = true) : BlkOk X.N X.env.scope scope (ownL Γ.N own) := by
  rw [c.N, c.sc]
  exact blkOk_by h
theorem snd_comp {elt : E} {tg : List Nat} {it : It} {ts : Ts} {own : List Nat} (hi : SndIt ob Φ it) (he : SndN ob Φ elt) (ht : SndTs1 ob Φ ts) : SndE ob Φ (.comp elt tg it ts own) := by
  have key : ∀ {X : Cx} {Γ : Gam} {k : Nat} {ex : Expr} {g : Gh} {H : Hp} {σ : L2.St} {ρ : Rho} {d : D}, Here ob Φ X Γ k g H σ ρ → mE Γ (.comp elt tg it ts own) ex = true → evE Φ (.comp elt tg it ts own) ρ = some d → ∃ ds, d = .lst ds ∧ ∀ Q, PostL ob X.K g H ds Q → wpE X ex σ H Q := by
    intro X Γ k ex g H σ ρ d h m e
    obtain ⟨y, tx, ix, ifs, scope, p, rfl, mb, mi, me, mt, mo, ms, ml⟩ := comp_txt m
    obtain ⟨ds, es, e1, e2, hl, rfl⟩ := evE_comp e
    refine ⟨es, rfl, fun Q q => ?_⟩
    have ok := blk_of h.c mb
    refine (pe_lc h.c.calm (by rw [h.c.N]; exact h.c.nd) pi_wp ok (g := fun v σ H Q => ∀ (s : Shared) (H0 : Hp) (C : Addr) (cl : List (Str × Addr)) (fp : List Addr), wpG (X.blk s H0 scope (compEnvC scope cl C X.env) fp) tx v σ H Q)
      (tt := fun σ H Q => ∀ (s : Shared) (H0 : Hp) (C : Addr) (cl : List (Str × Addr)) (fp : List Addr), wpTs (X.blk s H0 scope (compEnvC scope cl C X.env) fp) ifs σ H Q)
      (te := fun σ H Q => ∀ (s : Shared) (H0 : Hp) (C : Addr) (cl : List (Str × Addr)) (fp : List Addr), wpE (X.blk s H0 scope (compEnvC scope cl C X.env) fp) y σ H Q)
      (fun s H C cl fp => ⟨fun pins s' σ' H' v u Q' I r hq => hq s H C cl fp pins s' u I r⟩) (fun s H C cl fp => ⟨fun pins s' σ' H' Q' I hq => hq s H C cl fp pins s' I⟩) (fun s H C cl fp => ⟨fun pins s' σ' H' Q' I hq => hq s H C cl fp pins s' I⟩) (mIt_set mi X.env)).wp ?_
    rw [own_snd]
    exact lc_read hi he ht h mi me mt mo ms ml ok.kind e1 e2 hl q
  refine ⟨fun {X Γ k ex g H σ ρ d} h m e Q q => ?_, fun _ => fun {X Γ k ex g H σ ρ ds} h m e Q q => ?_⟩
  · obtain ⟨ds, rfl, z⟩ := key h m e
    exact z Q q.frz
  · obtain ⟨ds', e', z⟩ := key h m e
    cases e'
    exact z Q q
end
theorem one_of {ob : Ob} {Φ : Nat → List D → Option D} {e c : E} {es : Es} (h : Es.cons e es = .cons c .nil) (s : SndN ob Φ e) : SndN ob Φ c := by
  cases h
  exact @s
/-! ### all expressions -/
section
variable (ob : Ob) (Φ : Nat → List D → Option D)
mutual
theorem sndE : (c : E) → SndE ob Φ c
  | .slot i => snd_slot i
  | .cint i => snd_int i
  | .cbl b => snd_bl b
  | .cnon => snd_non
  | .cstr x => snd_str x
  | .bin op a b => snd_bin (sndE a).1 (sndE b).1
  | .neg a => snd_neg (sndE a).1
  | .cmp op a b => snd_cmp (sndE a).1 (sndE b).1
  | .andV es => snd_andV (sndAnd es)
  | .orV es => snd_orV (sndOr es)
  | .notV a => snd_notV (sndE a).1
  | .ite t a b => snd_ite (sndT t) (sndE a).1 (sndE b).1
  | .tup es => snd_tup (sndEs es)
  | .lst es => snd_lst (sndEs es)
  | .idx a b => snd_idx (sndE a).1 (sndE b).1
  | .slc a lo hi => snd_slc (sndE a).1 (sndO lo) (sndO hi)
  | .call f es dv => snd_call (sndEs es)
  | .prim p es => snd_prim (sndOne es)
  | .comp elt tg it ts own => snd_comp (sndIt it) (sndE elt).1 (sndTs1 ts)
  | .dget i k => snd_dget (sndE k).1
  | .rev a => snd_rev (sndE a).1
theorem sndEs : (c : Es) → SndEs ob Φ c
  | .nil => snd_es_nil
  | .cons e es => snd_es_cons (sndE e).1 (sndEs es)
theorem sndOne : (cs : Es) → ∀ c, cs = .cons c .nil → SndN ob Φ c
  | .nil => fun c e => by cases e
  | .cons e es => fun c h => one_of h (sndE e).1
theorem sndAnd : (c : Es) → SndAnd ob Φ c
  | .nil => snd_and_nil
  | .cons e es => snd_and_cons (sndE e).1 (sndAnd es)
theorem sndOr : (c : Es) → SndOr ob Φ c
  | .nil => snd_or_nil
  | .cons e es => snd_or_cons (sndE e).1 (sndOr es)
theorem sndO : (c : O) → SndO ob Φ c
  | .none => snd_o_none
  | .some e => snd_o_some (sndE e).1
theorem sndT : (c : T) → SndT ob Φ c
  | .tru e => snd_tru (sndE e).1
  | .cmp op a b => snd_tcmp (sndE a).1 (sndE b).1
  | .chain op op' a b c => snd_chain (sndE a).1 (sndE b).1 (sndE c).1
  | .and ts => snd_tand (sndAll ts)
  | .or ts => snd_tor (sndAny ts)
  | .not t => snd_tnot (sndT t)
theorem sndAll : (c : Ts) → SndTsA ob Φ c
  | .nil => snd_all_nil
  | .cons t ts => snd_all_cons (sndT t) (sndAll ts)
theorem sndAny : (c : Ts) → SndTsO ob Φ c
  | .nil => snd_any_nil
  | .cons t ts => snd_any_cons (sndT t) (sndAny ts)
theorem sndTs1 : (c : Ts) → SndTs1 ob Φ c
  | .nil => snd_ts1_nil
  | .cons t ts => snd_ts1_cons (sndT t)
theorem sndIt : (c : It) → SndIt ob Φ c
  | .rng1 a => snd_rng1 (sndE a).1
  | .rng2 a b => snd_rng2 (sndE a).1 (sndE b).1
  | .seq e => snd_seq (sndE e).1
end
end
end MP

set_option maxHeartbeats 1000000
/-! MiniPy: statements. -/
namespace MP
open PySem PySem.Spec PyProof.Rows L2
/-- the state of a def's body: entered at (g0, H0) -/
structure SR (ob : Ob) (K : PySem.W.Frag) (wd : World) (g0 : Gh) (H0 : Hp) (g : Gh) (H : Hp) (σ : L2.St) (ρ : Rho) : Prop where
  x : Ext ob g0 H0 g H
  s : Slots K wd g H σ ρ
  new : ∀ (i : Nat) (ds : List D) (a : Addr), ρ[i]? = some (.mls ds) → σ[i]? = some (some (.ref a)) → H0 a = none
  dist : ∀ (i j : Nat) (ds es : List D) (a : Addr), ρ[i]? = some (.mls ds) → ρ[j]? = some (.mls es) → σ[i]? = some (some (.ref a)) → σ[j]? = some (some (.ref a)) → i = j
  newD : ∀ (i : Nat) (ds : List (NestedKey × D)) (a : Addr), ρ[i]? = some (.mdc ds) → σ[i]? = some (some (.ref a)) → H0 a = none
  distD : ∀ (i j : Nat) (ds es : List (NestedKey × D)) (a : Addr), ρ[i]? = some (.mdc ds) → ρ[j]? = some (.mdc es) → σ[i]? = some (some (.ref a)) → σ[j]? = some (some (.ref a)) → i = j
section
variable {ob : Ob} {K : PySem.W.Frag} {wd : World} {g0 g g1 : Gh} {H0 H H1 : Hp} {σ : L2.St} {ρ : Rho}
theorem SR.ext (r : SR ob K wd g0 H0 g H σ ρ) (x : Ext ob g H g1 H1) : SR ob K wd g0 H0 g1 H1 σ ρ := ⟨r.x.trans x, r.s.ext x, r.new, r.dist, r.newD, r.distD⟩
theorem get_set_ne {α : Type} {xs : List α} {i j : Nat} {v w : α} (h : (xs.set i v)[j]? = some w) (n : i ≠ j) : xs[j]? = some w := by
  rw [List.getElem?_set_ne n] at h
  exact h
theorem get_set_self {α : Type} {xs : List α} {i : Nat} {v w : α} (h : (xs.set i v)[i]? = some w) : v = w := by
  have hl : i < xs.length := by
    have := (List.getElem?_eq_some_iff.mp h).1
    simpa using this
  rw [List.getElem?_set_self hl] at h
  exact Option.some.inj h
theorem SR.setVal (r : SR ob K wd g0 H0 g H σ ρ) {v : V} {d : D} (j : Nat) (q : Rep K g v d) : SR ob K wd g0 H0 g H (σ.set j (some v)) (ρ.set j (.val d)) := by
  refine ⟨r.x, r.s.setVal j q, fun i ds a e1 e2 => ?_, fun i i' ds es a e1 e2 e3 e4 => ?_, fun i ds a e1 e2 => ?_, fun i i' ds es a e1 e2 e3 e4 => ?_⟩
  · have n : j ≠ i := fun z => by subst z; cases get_set_self e1
    exact r.new i ds a (get_set_ne e1 n) (get_set_ne e2 n)
  · have n : j ≠ i := fun z => by subst z; cases get_set_self e1
    have n' : j ≠ i' := fun z => by subst z; cases get_set_self e2
    exact r.dist i i' ds es a (get_set_ne e1 n) (get_set_ne e2 n') (get_set_ne e3 n) (get_set_ne e4 n')
  · have n : j ≠ i := fun z => by subst z; cases get_set_self e1
    exact r.newD i ds a (get_set_ne e1 n) (get_set_ne e2 n)
  · have n : j ≠ i := fun z => by subst z; cases get_set_self e1
    have n' : j ≠ i' := fun z => by subst z; cases get_set_self e2
    exact r.distD i i' ds es a (get_set_ne e1 n) (get_set_ne e2 n') (get_set_ne e3 n) (get_set_ne e4 n')
/-- a list of one's own at a slot -/
theorem SR.setOwn (r : SR ob K wd g0 H0 g H σ ρ) {p : Addr} {xs : List V} {ds : List D} (j : Nat) (x : Ext ob g H g1 H1) (hp : H p = none) (h1 : H1 p = some (.lst xs)) (hf : g1.F p = none) (hb : g1.B p = none) (q : RepL K g1 xs ds) : SR ob K wd g0 H0 g1 H1 (σ.set j (some (.ref p))) (ρ.set j (.mls ds)) := by
  have r1 := r.ext x
  have nw : ∀ (i : Nat) (es : List D) (a : Addr), ρ[i]? = some (.mls es) → σ[i]? = some (some (.ref a)) → a ≠ p := fun i es a e1 e2 z => by
    obtain ⟨b, ys, h2, h3, _⟩ := r.s.at' _ _ e1
    rw [e2] at h2
    cases h2
    rw [z, hp] at h3
    cases h3
  refine ⟨r1.x, ⟨by simp [r1.s.len], fun i sv e => ?_⟩, fun i es a e1 e2 => ?_, fun i i' es es' a e1 e2 e3 e4 => ?_, fun i es a e1 e2 => ?_, fun i i' es es' a e1 e2 e3 e4 => ?_⟩
  · by_cases h : j = i
    · subst h
      cases get_set_self e
      have hl : j < σ.length := by
        have := (List.getElem?_eq_some_iff.mp e).1
        rw [r.s.len]
        simpa using this
      exact ⟨p, xs, by rw [List.getElem?_set_self hl], h1, hf, hb, q⟩
    · have z := r1.s.at' i sv (get_set_ne e h)
      cases sv with
      | non => trivial
      | val d => obtain ⟨v, z1, z2⟩ := z; exact ⟨v, by rw [List.getElem?_set_ne h]; exact z1, z2⟩
      | mls es => obtain ⟨a, ys, z1, z2⟩ := z; exact ⟨a, ys, by rw [List.getElem?_set_ne h]; exact z1, z2⟩
      | mdc es => obtain ⟨a, ys, z1, z2⟩ := z; exact ⟨a, ys, by rw [List.getElem?_set_ne h]; exact z1, z2⟩
  · by_cases h : j = i
    · subst h
      cases get_set_self e2
      exact r.x.back hp
    · exact r.new i es a (get_set_ne e1 h) (get_set_ne e2 h)
  · by_cases h : j = i
    · by_cases h' : j = i'
      · rw [← h, ← h']
      · subst h
        cases get_set_self e3
        exact absurd rfl (nw i' es' p (get_set_ne e2 h') (get_set_ne e4 h'))
    · by_cases h' : j = i'
      · subst h'
        cases get_set_self e4
        exact absurd rfl (nw i es p (get_set_ne e1 h) (get_set_ne e3 h))
      · exact r.dist i i' es es' a (get_set_ne e1 h) (get_set_ne e2 h') (get_set_ne e3 h) (get_set_ne e4 h')
  · have h : j ≠ i := fun z => by subst z; cases get_set_self e1
    exact r.newD i es a (get_set_ne e1 h) (get_set_ne e2 h)
  · have h : j ≠ i := fun z => by subst z; cases get_set_self e1
    have h' : j ≠ i' := fun z => by subst z; cases get_set_self e2
    exact r.distD i i' es es' a (get_set_ne e1 h) (get_set_ne e2 h') (get_set_ne e3 h) (get_set_ne e4 h')
/-- a dict of one's own at a slot -/
theorem SR.setOwnD (r : SR ob K wd g0 H0 g H σ ρ) {p : Addr} {u : HO} {kvs : List (NestedKey × D)} (j : Nat) (x : Ext ob g H g1 H1) (hp : H p = none) (h1 : H1 p = some u) (hf : g1.F p = none) (hb : g1.B p = none) (q : DRel K wd g1 p u kvs) : SR ob K wd g0 H0 g1 H1 (σ.set j (some (.ref p))) (ρ.set j (.mdc kvs)) := by
  have r1 := r.ext x
  have nw : ∀ (i : Nat) (es : List (NestedKey × D)) (a : Addr), ρ[i]? = some (.mdc es) → σ[i]? = some (some (.ref a)) → a ≠ p := fun i es a e1 e2 z => by
    obtain ⟨b, ys, h2, h3, _⟩ := r.s.at' _ _ e1
    rw [e2] at h2
    cases h2
    rw [z, hp] at h3
    cases h3
  refine ⟨r1.x, ⟨by simp [r1.s.len], fun i sv e => ?_⟩, fun i es a e1 e2 => ?_, fun i i' es es' a e1 e2 e3 e4 => ?_, fun i es a e1 e2 => ?_, fun i i' es es' a e1 e2 e3 e4 => ?_⟩
  · by_cases h : j = i
    · subst h
      cases get_set_self e
      have hl : j < σ.length := by
        have := (List.getElem?_eq_some_iff.mp e).1
        rw [r.s.len]
        simpa using this
      exact ⟨p, u, by rw [List.getElem?_set_self hl], h1, hf, hb, q⟩
    · have z := r1.s.at' i sv (get_set_ne e h)
      cases sv with
      | non => trivial
      | val d => obtain ⟨v, z1, z2⟩ := z; exact ⟨v, by rw [List.getElem?_set_ne h]; exact z1, z2⟩
      | mls es => obtain ⟨a, ys, z1, z2⟩ := z; exact ⟨a, ys, by rw [List.getElem?_set_ne h]; exact z1, z2⟩
      | mdc es => obtain ⟨a, ys, z1, z2⟩ := z; exact ⟨a, ys, by rw [List.getElem?_set_ne h]; exact z1, z2⟩
  · have h : j ≠ i := fun z => by subst z; cases get_set_self e1
    exact r.new i es a (get_set_ne e1 h) (get_set_ne e2 h)
  · have h : j ≠ i := fun z => by subst z; cases get_set_self e1
    have h' : j ≠ i' := fun z => by subst z; cases get_set_self e2
    exact r.dist i i' es es' a (get_set_ne e1 h) (get_set_ne e2 h') (get_set_ne e3 h) (get_set_ne e4 h')
  · by_cases h : j = i
    · subst h
      cases get_set_self e2
      exact r.x.back hp
    · exact r.newD i es a (get_set_ne e1 h) (get_set_ne e2 h)
  · by_cases h : j = i
    · by_cases h' : j = i'
      · rw [← h, ← h']
      · subst h
        cases get_set_self e3
        exact absurd rfl (nw i' es' p (get_set_ne e2 h') (get_set_ne e4 h'))
    · by_cases h' : j = i'
      · subst h'
        cases get_set_self e4
        exact absurd rfl (nw i es p (get_set_ne e1 h) (get_set_ne e3 h))
      · exact r.distD i i' es es' a (get_set_ne e1 h) (get_set_ne e2 h') (get_set_ne e3 h) (get_set_ne e4 h')
/-- the dict at slot i is changed -/
theorem SR.writeD (r : SR ob K wd g0 H0 g H σ ρ) {i : Nat} {ds es : List (NestedKey × D)} {a : Addr} {u : HO} (e : ρ[i]? = some (.mdc ds)) (ea : σ[i]? = some (some (.ref a))) (q : DRel K wd g a u es) : SR ob K wd g0 H0 g (upd H a u) σ (ρ.set i (.mdc es)) := by
  obtain ⟨a', u0, h1, h2, hf, hb, h3⟩ := r.s.at' _ _ e
  rw [ea] at h1
  cases h1
  have hi : i < ρ.length := (List.getElem?_eq_some_iff.mp e).1
  have ext0 : ∃ φ, u0 = .ext φ := by obtain ⟨_, xs, rfl, _⟩ := h3; exact ⟨_, rfl⟩
  refine ⟨r.x.write (r.newD i ds a e ea) hf hb, ⟨by simp [r.s.len], fun j sv ej => ?_⟩, fun j fs b e1 e2 => ?_, fun j j' fs fs' b e1 e2 e3 e4 => ?_, fun j fs b e1 e2 => ?_, fun j j' fs fs' b e1 e2 e3 e4 => ?_⟩
  · by_cases h : i = j
    · subst h
      cases get_set_self ej
      exact ⟨a, u, ea, upd_same, hf, hb, q⟩
    · have ej' := get_set_ne ej h
      have z := r.s.at' j sv ej'
      cases sv with
      | non => trivial
      | val d => exact z
      | mls fs =>
        obtain ⟨b, zs, z1, z2, z3, z4, z5⟩ := z
        have nb : b ≠ a := fun w => by
          rw [w, h2] at z2
          obtain ⟨φ, rfl⟩ := ext0
          cases z2
        exact ⟨b, zs, z1, by rw [upd_ne nb]; exact z2, z3, z4, z5⟩
      | mdc fs =>
        obtain ⟨b, zs, z1, z2, z3, z4, z5⟩ := z
        have nb : b ≠ a := fun w => h (r.distD i j ds fs a e ej' ea (by rw [z1, w]))
        exact ⟨b, zs, z1, by rw [upd_ne nb]; exact z2, z3, z4, z5⟩
  · have h : i ≠ j := fun z => by subst z; cases get_set_self e1
    exact r.new j fs b (get_set_ne e1 h) e2
  · have h : i ≠ j := fun z => by subst z; cases get_set_self e1
    have h' : i ≠ j' := fun z => by subst z; cases get_set_self e2
    exact r.dist j j' fs fs' b (get_set_ne e1 h) (get_set_ne e2 h') e3 e4
  · by_cases h : i = j
    · subst h
      exact r.newD i ds b e e2
    · exact r.newD j fs b (get_set_ne e1 h) e2
  · have lk : ∀ {j : Nat} {fs : List (NestedKey × D)}, (ρ.set i (.mdc es))[j]? = some (.mdc fs) → ∃ fs', ρ[j]? = some (.mdc fs') := fun {j fs} z => by
      by_cases h : i = j
      · subst h; exact ⟨_, e⟩
      · exact ⟨_, get_set_ne z h⟩
    obtain ⟨f1, w1⟩ := lk e1
    obtain ⟨f2, w2⟩ := lk e2
    exact r.distD j j' f1 f2 b w1 w2 e3 e4
/-- the list at slot i is changed -/
theorem SR.write (r : SR ob K wd g0 H0 g H σ ρ) {i : Nat} {ds es : List D} {a : Addr} {ys : List V} (e : ρ[i]? = some (.mls ds)) (ea : σ[i]? = some (some (.ref a))) (q : RepL K g ys es) : SR ob K wd g0 H0 g (upd H a (.lst ys)) σ (ρ.set i (.mls es)) := by
  obtain ⟨a', xs, h1, h2, hf, hb, h3⟩ := r.s.at' _ _ e
  rw [ea] at h1
  cases h1
  have hi : i < ρ.length := (List.getElem?_eq_some_iff.mp e).1
  refine ⟨r.x.write (r.new i ds a e ea) hf hb, ⟨by simp [r.s.len], fun j sv ej => ?_⟩, fun j fs b e1 e2 => ?_, fun j j' fs fs' b e1 e2 e3 e4 => ?_, fun j fs b e1 e2 => ?_, fun j j' fs fs' b e1 e2 e3 e4 => ?_⟩
  · by_cases h : i = j
    · subst h
      cases get_set_self ej
      exact ⟨a, ys, ea, upd_same, hf, hb, q⟩
    · have ej' := get_set_ne ej h
      have z := r.s.at' j sv ej'
      cases sv with
      | non => trivial
      | val d => exact z
      | mls fs =>
        obtain ⟨b, zs, z1, z2, z3, z4, z5⟩ := z
        have nb : b ≠ a := fun w => h (r.dist i j ds fs a e ej' ea (by rw [z1, w]))
        exact ⟨b, zs, z1, by rw [upd_ne nb]; exact z2, z3, z4, z5⟩
      | mdc fs =>
        obtain ⟨b, zs, z1, z2, z3, z4, z5⟩ := z
        have nb : b ≠ a := fun w => by
          rw [w, h2] at z2
          obtain ⟨_, _, rfl, _⟩ := z5
          cases z2
        exact ⟨b, zs, z1, by rw [upd_ne nb]; exact z2, z3, z4, z5⟩
  · by_cases h : i = j
    · subst h
      exact r.new i ds b e e2
    · exact r.new j fs b (get_set_ne e1 h) e2
  · have lk : ∀ {j : Nat} {fs : List D}, (ρ.set i (.mls es))[j]? = some (.mls fs) → ∃ fs', ρ[j]? = some (.mls fs') := fun {j fs} z => by
      by_cases h : i = j
      · subst h; exact ⟨_, e⟩
      · exact ⟨_, get_set_ne z h⟩
    obtain ⟨f1, w1⟩ := lk e1
    obtain ⟨f2, w2⟩ := lk e2
    exact r.dist j j' f1 f2 b w1 w2 e3 e4
  · have h : i ≠ j := fun z => by subst z; cases get_set_self e1
    exact r.newD j fs b (get_set_ne e1 h) e2
  · have h : i ≠ j := fun z => by subst z; cases get_set_self e1
    have h' : i ≠ j' := fun z => by subst z; cases get_set_self e2
    exact r.distD j j' fs fs' b (get_set_ne e1 h) (get_set_ne e2 h') e3 e4
/-- the list at slot i is never changed from now on -/
theorem SR.frz (r : SR ob K wd g0 H0 g H σ ρ) {i : Nat} {ds : List D} (e : ρ[i]? = some (.mls ds)) : ∃ g', g.le g' ∧ SR ob K wd g0 H0 g' H σ (ρ.set i (.val (.lst ds))) := by
  obtain ⟨a, xs, h1, h2, hf, hb, h3⟩ := r.s.at' _ _ e
  have xf := r.x.freeze (r.new i ds a e h1) h2 hf hb
  have le : g.le (g.put a (.lst xs)) := Gh.put_le hf
  refine ⟨g.put a (.lst xs), le, xf, ⟨by simp [r.s.len], fun j sv ej => ?_⟩, fun j fs b e1 e2 => ?_, fun j j' fs fs' b e1 e2 e3 e4 => ?_, fun j fs b e1 e2 => ?_, fun j j' fs fs' b e1 e2 e3 e4 => ?_⟩
  · by_cases h : i = j
    · subst h
      cases get_set_self ej
      exact ⟨.ref a, h1, .lst (.of put_F) (RepL.mono le _ _ h3)⟩
    · have ej' := get_set_ne ej h
      have z := r.s.at' j sv ej'
      cases sv with
      | non => trivial
      | val d => obtain ⟨v, z1, z2⟩ := z; exact ⟨v, z1, Rep.mono le _ _ z2⟩
      | mls fs =>
        obtain ⟨b, zs, z1, z2, z3, z4, z5⟩ := z
        have nb : b ≠ a := fun w => h (r.dist i j ds fs a e ej' h1 (by rw [z1, w]))
        refine ⟨b, zs, z1, z2, ?_, z4, RepL.mono le _ _ z5⟩
        show upd g.F a _ b = none
        rw [upd_ne nb]; exact z3
      | mdc fs =>
        obtain ⟨b, zs, z1, z2, z3, z4, z5⟩ := z
        have nb : b ≠ a := fun w => by
          rw [w, h2] at z2
          obtain ⟨_, _, rfl, _⟩ := z5
          cases z2
        refine ⟨b, zs, z1, z2, ?_, z4, z5.mono le⟩
        show upd g.F a _ b = none
        rw [upd_ne nb]; exact z3
  · have h : i ≠ j := fun z => by subst z; cases get_set_self e1
    exact r.new j fs b (get_set_ne e1 h) e2
  · have h : i ≠ j := fun z => by subst z; cases get_set_self e1
    have h' : i ≠ j' := fun z => by subst z; cases get_set_self e2
    exact r.dist j j' fs fs' b (get_set_ne e1 h) (get_set_ne e2 h') e3 e4
  · have h : i ≠ j := fun z => by subst z; cases get_set_self e1
    exact r.newD j fs b (get_set_ne e1 h) e2
  · have h : i ≠ j := fun z => by subst z; cases get_set_self e1
    have h' : i ≠ j' := fun z => by subst z; cases get_set_self e2
    exact r.distD j j' fs fs' b (get_set_ne e1 h) (get_set_ne e2 h') e3 e4
theorem SR.setVs (r : SR ob K wd g0 H0 g H σ ρ) : ∀ {js : List Nat} {vs : List V} {ds : List D}, RepL K g vs ds → SR ob K wd g0 H0 g H (setV σ (js.zip vs)) ((js.zip ds).foldl (fun r p => r.set p.1 (.val p.2)) ρ) := by
  intro js
  induction js generalizing σ ρ with
  | nil => intro vs ds _; exact r
  | cons j js ih =>
    intro vs ds q
    cases q with
    | nil => exact r
    | cons h1 h2 => exact ih (r.setVal j h1) h2
end

def PostF (ob : Ob) (K : PySem.W.Frag) (wd : World) (g0 : Gh) (H0 : Hp) (g : Gh) (fl : Fl) (Dn : Ends) : Prop := match fl with
  | .nx ρ' => ∀ σ' g' H', g.le g' → SR ob K wd g0 H0 g' H' σ' ρ' → Dn.nx σ' H'
  | .ct ρ' => ∀ σ' g' H', g.le g' → SR ob K wd g0 H0 g' H' σ' ρ' → Dn.ct σ' H'
  | .bk ρ' => ∀ σ' g' H', g.le g' → SR ob K wd g0 H0 g' H' σ' ρ' → Dn.bk σ' H'
  | .rt d => ∀ v g' H', Ext ob g0 H0 g' H' → Rep K g' v d → Dn.rt v H'
theorem PostF.le {ob : Ob} {K : PySem.W.Frag} {wd : World} {g0 g g1 : Gh} {H0 : Hp} {fl : Fl} {Dn : Ends} (p : PostF ob K wd g0 H0 g fl Dn) (l : g.le g1) : PostF ob K wd g0 H0 g1 fl Dn := by
  cases fl with
  | nx ρ' => exact fun σ' g' H' m r => p σ' g' H' (l.trans m) r
  | ct ρ' => exact fun σ' g' H' m r => p σ' g' H' (l.trans m) r
  | bk ρ' => exact fun σ' g' H' m r => p σ' g' H' (l.trans m) r
  | rt d => exact p
section
variable (ob : Ob) (Φ : Nat → List D → Option D) (wf : Nat)
def SndS (c : S) : Prop := ∀ {X : Cx} {Γ : Gam} {k : Nat} {st : Stmt} {g0 g : Gh} {H0 H : Hp} {σ : L2.St} {ρ : Rho} {fl : Fl}, Ctx X Γ → Γ.fnc = none → Fns ob Φ X Γ k → SR ob X.K X.w g0 H0 g H σ ρ → mS Γ c st = true → evS Φ wf c ρ = some fl → ∀ Dn, PostF ob X.K X.w g0 H0 g fl Dn → wpS X st Dn σ H
def SndSs (c : Ss) : Prop := ∀ {X : Cx} {Γ : Gam} {k : Nat} {sts : List Stmt} {g0 g : Gh} {H0 H : Hp} {σ : L2.St} {ρ : Rho} {fl : Fl}, Ctx X Γ → Γ.fnc = none → Fns ob Φ X Γ k → SR ob X.K X.w g0 H0 g H σ ρ → mSs Γ c sts = true → evSs Φ wf c ρ = some fl → ∀ Dn, PostF ob X.K X.w g0 H0 g fl Dn → wpSs X sts Dn σ H
end
section
variable {ob : Ob} {Φ : Nat → List D → Option D} {wf : Nat} {X : Cx} {Γ : Gam} {k : Nat} {g0 g : Gh} {H0 H : Hp} {σ : L2.St} {ρ : Rho}
theorem SR.here (c : Ctx X Γ) (f : Fns ob Φ X Γ k) (r : SR ob X.K X.w g0 H0 g H σ ρ) : Here ob Φ X Γ k g H σ ρ := ⟨c, f, r.x.ok, r.s⟩
theorem sw_plain {c : E} {v : Expr} (m : mE Γ c v = true) (n : ∀ y gs sc p, v ≠ .ListComp y gs sc p) (t : Option Expr) (l : Nat) (env : Env) : swapsWith v t l env = pure false := by
  cases v <;> first | rfl | exact absurd rfl (n _ _ _ _) | (exfalso; cases c <;> simp [mE] at m)
theorem sw_name {y : Expr} {gs : List Comprehension} {sc : Scope} {p px : Pos} {x : Str} {l : Nat} {env : Env} :
    swapsWith (.ListComp y gs sc p) (some (.Name x px)) l env = pure (env.blockKind == .function && env.kindOf x == some .local && px.line == p.line && !(sc.names.any fun (n, k) => n == x && (k == .local || k == .cell))) := rfl
theorem sw_other {c : E} {v : Expr} (m : mE Γ c v = true) (t : Expr) (n : ∀ x p, t ≠ .Name x p) (l : Nat) (env : Env) : swapsWith v (some t) l env = pure false := by
  cases v <;> first | rfl | (exfalso; cases c <;> simp [mE] at m; done) | skip
  cases t <;> first | rfl | exact absurd rfl (n _ _)
theorem tg_parts (c : Ctx X Γ) {j : Nat} {x : Str} (m : tgB Γ j x = true) : X.N.Nodup ∧ X.N[j]? = some x ∧ Loc X.env.scope x ∧ (X.fn x = true ∨ X.env.scope.names.lookup x = some .local) := by
  unfold tgB nameAt at m
  obtain ⟨m1, m2⟩ := and2 m
  obtain ⟨h1, h2⟩ := loc_of c m2
  exact ⟨by rw [c.N]; exact c.nd, by rw [c.N]; exact of_decide_eq_true m1, h1, h2⟩
/-- name = e, where e's end is known both ways -/
theorem asg_wp {e : E} {x : Str} {v : Expr} {px pos : Pos} {i : Nat} {Dn : Ends} (h : Here ob Φ X Γ k g H σ ρ) (m : tgB Γ i x = true) (me : mE Γ e v = true) {d : D} (ee : evE Φ e ρ = some d)
    (q1 : wpE X v σ H (fun y H1 => Dn.nx (σ.set i (some y)) H1)) (q2 : ∀ es, d = .lst es → fresh e = true → PostL ob X.K g H es (fun y H1 => Dn.nx (σ.set i (some y)) H1)) : wpS X (.Assign [.Name x px] v pos) Dn σ H := by
  obtain ⟨hN, hi, hx, hf⟩ := tg_parts h.c m
  by_cases hc : ∃ y gs sc p, v = .ListComp y gs sc p
  · obtain ⟨y, gs, sc, p, rfl⟩ := hc
    by_cases hs : (X.env.blockKind == .function && X.env.kindOf x == some .local && px.line == p.line && !(sc.names.any fun (n, k) => n == x && (k == .local || k == .cell))) = true
    · cases e with
      | comp elt tg it ts own =>
        obtain ⟨y', tx, ix, ifs, sc', p', ex, mb, mi, me', mt, mo, ms, ml⟩ := comp_txt me
        cases ex
        obtain ⟨ds, es, e1, e2, hl, rfl⟩ := evE_comp ee
        have ok := blk_of h.c mb
        have hloc : X.env.scope.names.lookup x = some .local := by
          obtain ⟨hs1, _⟩ := and2 hs
          obtain ⟨hs1, _⟩ := and2 hs1
          obtain ⟨_, hs2⟩ := and2 hs1
          simpa [Env.kindOf] using hs2
        refine (ps_setLc (i := i) h.c.calm hN hi hloc (by rw [sw_name, hs]) pi_wp ok (g := fun v σ H Q => ∀ (s : Shared) (H0 : Hp) (C : Addr) (cl : List (Str × Addr)) (fp : List Addr), wpG (X.blk s H0 sc (compEnvC sc cl C X.env) fp) tx v σ H Q)
          (tt := fun σ H Q => ∀ (s : Shared) (H0 : Hp) (C : Addr) (cl : List (Str × Addr)) (fp : List Addr), wpTs (X.blk s H0 sc (compEnvC sc cl C X.env) fp) ifs σ H Q)
          (te := fun σ H Q => ∀ (s : Shared) (H0 : Hp) (C : Addr) (cl : List (Str × Addr)) (fp : List Addr), wpE (X.blk s H0 sc (compEnvC sc cl C X.env) fp) y σ H Q)
          (fun s H C cl fp => ⟨fun pins s' σ' H' v u Q' I r hq => hq s H C cl fp pins s' u I r⟩) (fun s H C cl fp => ⟨fun pins s' σ' H' Q' I hq => hq s H C cl fp pins s' I⟩) (fun s H C cl fp => ⟨fun pins s' σ' H' Q' I hq => hq s H C cl fp pins s' I⟩) (mIt_set mi X.env)).wp ?_
        rw [own_snd]
        exact lc_read (sndIt ob Φ it) (sndE ob Φ elt).1 (sndTs1 ob Φ ts) h mi me' mt mo ms ml ok.kind e1 e2 hl (q2 es rfl rfl)
      | _ => simp [mE] at me
    · have hs' : (X.env.blockKind == .function && X.env.kindOf x == some .local && px.line == p.line && !(sc.names.any fun (n, k) => n == x && (k == .local || k == .cell))) = false := by
        revert hs
        cases (X.env.blockKind == .function && X.env.kindOf x == some .local && px.line == p.line && !(sc.names.any fun (n, k) => n == x && (k == .local || k == .cell))) <;> simp
      exact (ps_set (i := i) hN hi hx pe_wp (by rw [sw_name, hs']) hf).wp q1
  · exact (ps_set (i := i) hN hi hx pe_wp (sw_plain me (fun y gs sc p z => hc ⟨y, gs, sc, p, z⟩) _ _ _) hf).wp q1
theorem snds_set {i : Nat} {e : E} : SndS ob Φ wf (.set i e) := by
  refine fun {X Γ k st g0 g H0 H σ ρ fl} c fc f r m ev Dn q => ?_
  cases st with
  | Assign ts v pos =>
    match ts, m with
    | [.Name x px], m =>
      obtain ⟨m1, m2⟩ := and2 (show (tgB Γ i x && mE Γ e v) = true from m)
      simp only [evS] at ev
      split at ev
      · rename_i d ed
        cases ev
        obtain ⟨ed, np⟩ := pure_some ed
        have post : PostE ob X.K g H d (fun y H1 => Dn.nx (σ.set i (some y)) H1) := fun v' g' H' x' r' => q _ _ _ x'.le ((r.ext x').setVal i (r'.pure np))
        exact asg_wp (r.here c f) m1 m2 ed ((sndE ob Φ e).1 (r.here c f) m2 ed _ post) fun es z _ => by subst z; exact post.frz
      · cases ev
  | _ => cases m
theorem snds_setM {i : Nat} {e : E} : SndS ob Φ wf (.setM i e) := by
  refine fun {X Γ k st g0 g H0 H σ ρ fl} c fc f r m ev Dn q => ?_
  cases st with
  | Assign ts v pos =>
    match ts, m with
    | [.Name x px], m =>
      obtain ⟨m1, m2⟩ := and2 (show (tgB Γ i x && mE Γ e v) = true from m)
      simp only [evS] at ev
      split at ev
      · rename_i hfr
        split at ev
        · rename_i ds ed
          cases ev
          have post : PostL ob X.K g H ds (fun y H1 => Dn.nx (σ.set i (some y)) H1) := fun p xs g' H' x' h0 h1 h2 h3 h4 => q _ _ _ x'.le (r.setOwn i x' h0 h1 h2 h3 h4)
          exact asg_wp (r.here c f) m1 m2 ed ((sndE ob Φ e).2 hfr (r.here c f) m2 ed _ post) fun es z _ => by cases z; exact post
        · cases ev
      · cases ev
  | _ => cases m
theorem snds_unp {is : List Nat} {e : E} : SndS ob Φ wf (.unp is e) := by
  refine fun {X Γ k st g0 g H0 H σ ρ fl} c fc f r m ev Dn q => ?_
  cases st with
  | Assign ts v pos =>
    match ts, m with
    | [.Tuple tt kk p], m =>
      obtain ⟨m1, m3⟩ := and2 (show (mTgs Γ is tt && mE Γ e v && !isTup v) = true from m)
      obtain ⟨m1, m2⟩ := and2 m1
      simp only [evS] at ev
      split at ev
      · rename_i d ed
        match is, m1, ev with
        | j :: i :: js, m1, ev =>
          cases est : setTg (j :: i :: js) d ρ with
          | none => rw [est] at ev; cases ev
          | some ρ' =>
            rw [est] at ev
            cases ev
            obtain ⟨ds, rfl, hl, rfl⟩ := setTg_more est
            have hw : swappedStores [.Tuple tt kk p] v X.env = pure none := by
              cases v <;> first | rfl | cases m3
            refine (ps_asg pe_wp pg_wp (sw_other m2 _ (fun _ _ z => by cases z) _ _) hw rfl).wp ((sndE ob Φ e).1 (r.here c f) m2 ed _ fun v' g' H' x' r' => ?_)
            have r1 := r.ext x'
            obtain ⟨h1, h2⟩ := assign_len _ _ X.env m1
            obtain ⟨a, xs, rfl, hs, rl⟩ := RepR.tuple x'.ok r'
            refine (pg_tup c.calm (pgs_names c _ _ m1) h1 h2).wp ⟨a, xs, rfl, hs, by rw [rl.len, hl], ?_⟩
            exact gNames_of _ _ _ (by rw [rl.len, hl]) (q _ _ _ x'.le (r1.setVs rl))
      · cases ev
  | _ => cases m
theorem blk_fn (c : Ctx X Γ) : X.env.blockKind = .function := by
  unfold Env.blockKind
  rw [c.sc, c.kind]
  rfl
theorem snds_par {i j : Nat} {a b : E} : SndS ob Φ wf (.par i j a b) := by
  refine fun {X Γ k st g0 g H0 H σ ρ fl} c fc f r m ev Dn q => ?_
  cases st with
  | Assign ts v pos =>
    match ts, v, m with
    | [.Tuple [.Name x px, .Name y py] kt pt], .Tuple [u, w] k2 pt2, m =>
      have m' : (nameAt Γ i x && nameAt Γ j y && decide (i ≠ j) && locL Γ.sc x && locL Γ.sc y && mE Γ a u && mE Γ b w && decide (px.line = py.line) && decide (x ≠ y) && Γ.fnc.isNone &&
        !(foldedForSure 8 u && foldedForSure 8 w) && !(constantsAlone 8 u && constantsAlone 8 w)) = true := m
      simp only [Bool.and_eq_true, decide_eq_true_eq] at m'
      obtain ⟨⟨⟨⟨⟨⟨⟨⟨⟨⟨⟨m1, m2⟩, m3⟩, m4⟩, m5⟩, m6⟩, m7⟩, m8⟩, m9⟩, m10⟩, m11⟩, m12⟩ := m'
      unfold nameAt at m1 m2
      unfold locL at m4 m5
      have hx : X.env.scope.names.lookup x = some .local := by rw [c.sc]; exact of_decide_eq_true m4
      have hy : X.env.scope.names.lookup y = some .local := by rw [c.sc]; exact of_decide_eq_true m5
      have hw : swappedStores [.Tuple [.Name x px, .Name y py] kt pt] (.Tuple [u, w] k2 pt2) X.env = pure (some [x, y]) := by
        have kx : X.env.kindOf x = some .local := hx
        have ky : X.env.kindOf y = some .local := hy
        have nd : ([x, y] : List Str).eraseDups.length = 2 := by
          have : (y == x) = false := by simpa using (fun z : y = x => m9 z.symm)
          simp [List.eraseDups_cons, this]
        unfold swappedStores
        simp only [blk_fn c, kx, ky, List.any_cons, List.any_nil, List.filterMap_cons, List.filterMap_nil, Expr.pos, List.head?_cons, Option.map_some, Option.getD_some, List.length_cons, List.length_nil, m8, List.all_cons, List.all_nil]
        simp [nd]
        rw [if_neg (by
          rintro (z | z)
          · cases u <;> first | (cases z; done) | (cases a <;> simp [mE] at m6)
          · cases w <;> first | (cases z; done) | (cases b <;> simp [mE] at m7)), if_neg (fun z => by rw [z.1, z.2] at m11; cases m11), if_neg (fun z => by rw [z.1, z.2] at m12; cases m12)]
      simp only [evS] at ev
      split at ev
      · rename_i d1 d2 e1 e2
        cases ev
        obtain ⟨e1, n1⟩ := pure_some e1
        obtain ⟨e2, n2⟩ := pure_some e2
        refine (ps_par (i := i) (j := j) c.calm (by rw [c.N]; exact c.nd) (by rw [c.N]; exact of_decide_eq_true m1) (by rw [c.N]; exact of_decide_eq_true m2) m3 hx hy (pa_cons pe_wp (pa_cons pe_wp pa_nil (star_cons m7 [] X.env)) (star_cons m6 _ X.env)) hw rfl).wp ?_
        refine (sndE ob Φ a).1 (r.here c f) m6 e1 _ fun v1 g1 H1 x1 r1 => (sndE ob Φ b).1 ((r.ext x1).here c f) m7 e2 _ fun v2 g2 H2 x2 r2 => ⟨v1, v2, rfl, ?_⟩
        exact q _ _ _ (x1.trans x2).le ((((r.ext x1).ext x2).setVal i (Rep.mono x2.le _ _ (r1.pure n1))).setVal j (r2.pure n2))
      · cases ev
  | _ => cases m
end
end MP

set_option maxHeartbeats 1000000
/-! MiniPy: statements, further; defs. -/
namespace MP
open PySem PySem.Spec PyProof.Rows L2
section
variable {ob : Ob} {Φ : Nat → List D → Option D} {wf : Nat} {X : Cx} {Γ : Gam} {k : Nat} {g0 g : Gh} {H0 H : Hp} {σ : L2.St} {ρ : Rho}
theorem slot_pe (c : Ctx X Γ) {i : Nat} {x : Str} {p : Pos} (m : slotB Γ i x = true) : PE X (.Name x p) (tVar i) := by
  simp only [slotB, nameAt, Bool.and_eq_true, decide_eq_true_eq, Bool.not_eq_true'] at m
  obtain ⟨⟨⟨m1, m2⟩, m3⟩, m4⟩ := m
  exact pe_var (by rw [c.N]; exact m1) (by rw [c.sc]; exact vis_of m2) m3 m4
theorem snds_aug {i : Nat} {op : BOp} {e : E} : SndS ob Φ wf (.aug i op e) := by
  refine fun {X Γ k st g0 g H0 H σ ρ fl} c fc f r m ev Dn q => ?_
  cases st with
  | AugAssign t o v pos =>
    cases t with
    | Name x px =>
      obtain ⟨ma1, m3⟩ := and2 (show (tgB Γ i x && opB op o && mE Γ e v) = true from m)
      obtain ⟨ma2, m2⟩ := and2 ma1
      obtain rfl := opB_eq m2
      obtain ⟨hN, hi, hx, hf⟩ := tg_parts c ma2
      simp only [evS] at ev
      split at ev
      · rename_i x1 y1 er ee
        obtain ⟨w, hw, rw'⟩ := r.s.at' _ _ er
        cases rw'
        split at ev
        · cases ev
          refine (ps_aug hN hi hx pe_wp ip_add hf).wp ⟨_, hw, (sndE ob Φ e).1 (r.here c f) m3 ee _ fun v' g' H' x' r' => ?_⟩
          cases (show Rep _ _ _ _ from r')
          exact ⟨_, _, rfl, rfl, q _ _ _ x'.le ((r.ext x').setVal i (.int _))⟩
        · cases ev
          refine (ps_aug hN hi hx pe_wp ip_sub hf).wp ⟨_, hw, (sndE ob Φ e).1 (r.here c f) m3 ee _ fun v' g' H' x' r' => ?_⟩
          cases (show Rep _ _ _ _ from r')
          exact ⟨_, _, rfl, rfl, q _ _ _ x'.le ((r.ext x').setVal i (.int _))⟩
        · cases ev
      · cases ev
    | _ => cases m
  | _ => cases m
theorem line63' : line < 2 ^ 63 := by decide
theorem snds_app {i : Nat} {e : E} : SndS ob Φ wf (.app i e) := by
  refine fun {X Γ k st g0 g H0 H σ ρ fl} c fc f r m ev Dn q => ?_
  cases st with
  | Expr ex pos =>
    match ex, m with
    | .Call (.Attribute (.Name x px) mn ap) [v] [] cp, m =>
      obtain ⟨ma3, m4⟩ := and2 (show (slotB Γ i x && decide (mn = ("append" : Str)) && mE Γ e v && decide (ap.endLine = cp.line)) = true from m)
      obtain ⟨ma4, m3⟩ := and2 ma3
      obtain ⟨ma5, m2⟩ := and2 ma4
      obtain rfl := of_decide_eq_true m2
      simp only [evS] at ev
      split at ev
      · rename_i ds d er ee
        split at ev
        · rename_i hl
          cases ev
          obtain ⟨ee, np⟩ := pure_some ee
          obtain ⟨a, xs, h1, h2, h3, h4, h5⟩ := r.s.at' _ _ er
          refine (ps_expr (pe_bm PySem.F.plainAttrs_list PySem.F.slot_list_append PySem.F.type_list_append mt_append (slot_pe c ma5) (pa_cons pe_wp pa_nil (star_cons m3 [] X.env)) rfl (by rw [star_cons m3 [] X.env]; rfl) (by simpa using m4) (star_cons m3 [] X.env) rfl)).wp ?_
          refine ⟨.ref a, h1, .inl ⟨rfl, xs, .of h2⟩, ?_⟩
          refine (sndE ob Φ e).1 (r.here c f) m3 ee _ fun v' g' H' x' r' => ?_
          have r1 := r.ext x'
          have h2' := x'.keep a _ h2 h4
          have h5' := RepL.mono x'.le _ _ h5
          refine ⟨a, xs, v', rfl, rfl, h2', ?_, q _ _ _ x'.le (r1.write er h1 (h5'.append (.cons (r'.pure np) .nil)))⟩
          rw [h5.len, ← line_eq]
          exact of_decide_eq_true hl
        · cases ev
      · cases ev
  | _ => cases m
theorem snds_setIx {i : Nat} {j e : E} : SndS ob Φ wf (.setIx i j e) := by
  refine fun {X Γ k st g0 g H0 H σ ρ fl} c fc f r m ev Dn q => ?_
  cases st with
  | Assign ts v pos =>
    match ts, m with
    | [.Subscript (.Name x px) y sp], m =>
      obtain ⟨ma6, m3⟩ := and2 (show (slotB Γ i x && mE Γ j y && mE Γ e v) = true from m)
      obtain ⟨ma7, m2⟩ := and2 ma6
      simp only [evS] at ev
      split at ev
      · rename_i ds n d er ej ee
        split at ev
        · rename_i nn hn
          cases ev
          obtain ⟨ee, np⟩ := pure_some ee
          obtain ⟨a, xs, h1, h2, h3, h4, h5⟩ := r.s.at' _ _ er
          have hsw : swapsWith v (some (.Subscript (.Name x px) y sp)) pos.line X.env = pure false := sw_other m3 _ (fun _ _ z => by cases z) _ _
          refine (ps_asg pe_wp (pg_sub (slot_pe c ma7) pe_wp set_list (fun v => ?_)) hsw (by cases v <;> rfl) rfl).wp ?_
          · cases y <;> first | rfl | (exfalso; cases j <;> simp [mE] at m2)
          refine (sndE ob Φ e).1 (r.here c f) m3 ee _ fun v' g' H' x' r' => ?_
          have r1 := r.ext x'
          refine ⟨.ref a, h1, (sndE ob Φ j).1 (r1.here c f) m2 ej _ fun v2 g2 H2 x2 r2 => ?_⟩
          have x12 := x'.trans x2
          have h2' := x12.keep a _ h2 h4
          have h5' := RepL.mono x12.le _ _ h5
          cases (show Rep _ _ _ _ from r2)
          exact ⟨a, xs, n, nn, rfl, rfl, h2', by rw [h5.len]; exact hn, q _ _ _ x12.le ((r1.ext x2).write er h1 (h5'.set nn (Rep.mono x2.le _ _ (r'.pure np))))⟩
        · cases ev
      · cases ev
  | _ => cases m
theorem snds_dnew {i : Nat} : SndS ob Φ wf (.dnew i) := by
  refine fun {X Γ k st g0 g H0 H σ ρ fl} c fc f r m ev Dn q => ?_
  cases (show some (Fl.nx (ρ.set i (.mdc []))) = some fl from ev)
  cases st with
  | Assign ts v pos =>
    match ts, v, m with
    | [.Name x px], .Dict [] [] dp, m =>
      obtain ⟨hN, hi, hx, hf⟩ := tg_parts c (show tgB Γ i x = true from m)
      refine (ps_set (i := i) hN hi hx pe_nnew rfl hf).wp ?_
      exact fun p hp hne => q _ _ _ (.refl _) (r.setOwnD i (Ext.own r.x.ok hp) hp upd_same (r.x.ok.fresh hp).1 (r.x.ok.fresh hp).2 ⟨hne, [], rfl, .nil⟩)
  | _ => cases m
theorem snds_dset {i : Nat} {kk e : E} : SndS ob Φ wf (.dset i kk e) := by
  refine fun {X Γ k st g0 g H0 H σ ρ fl} c fc f r m ev Dn q => ?_
  cases st with
  | Assign ts v pos =>
    match ts, m with
    | [.Subscript (.Name x px) y sp], m =>
      obtain ⟨ma6, m3⟩ := and2 (show (slotB Γ i x && mE Γ kk y && mE Γ e v) = true from m)
      obtain ⟨ma7, m2⟩ := and2 ma6
      simp only [evS] at ev
      split at ev
      · rename_i kvs dk d er ej ee
        split at ev
        · rename_i kn ekn
          split at ev
          · rename_i hl
            cases ev
            obtain ⟨ee, np⟩ := pure_some ee
            obtain ⟨a, u, h1, h2, h3, h4, h5⟩ := r.s.at' _ _ er
            have hsw : swapsWith v (some (.Subscript (.Name x px) y sp)) pos.line X.env = pure false := sw_other m3 _ (fun _ _ z => by cases z) _ _
            refine (ps_nput f.room.units (slot_pe c ma7) pe_wp pe_wp hsw).wp ?_
            refine (sndE ob Φ e).1 (r.here c f) m3 ee _ fun v' g' H' x' r' => ?_
            have r1 := r.ext x'
            refine ⟨.ref a, h1, (sndE ob Φ kk).1 (r1.here c f) m2 ej _ fun v2 g2 H2 x2 r2 => ?_⟩
            have x12 := x'.trans x2
            have hrep : Rep X.K g2 v2 dk := r2.pure (by cases dk <;> first | rfl | cases ekn)
            obtain ⟨b, rfl⟩ : ∃ b, v2 = .ref b := by
              unfold keyT at ekn
              split at ekn
              · cases hrep with
                | tup hs hl => exact ⟨_, rfl⟩
              · cases ekn
            exact ⟨ob, a, b, g2, u, kvs, dk, d, kn, rfl, rfl, x12.ok, x12.keep a _ h2 h4, h5.mono x12.le, hrep, ekn, of_decide_eq_true hl, Rep.mono x2.le _ _ (r'.pure np), fun u' hd => q _ _ _ x12.le ((r1.ext x2).writeD er h1 hd)⟩
          · cases ev
        · cases ev
      · cases ev
  | _ => cases m
theorem snds_ins {i : Nat} {j e : E} : SndS ob Φ wf (.ins i j e) := by
  refine fun {X Γ k st g0 g H0 H σ ρ fl} c fc f r m ev Dn q => ?_
  cases st with
  | Expr ex pos =>
    match ex, m with
    | .Call (.Attribute (.Name x px) mn ap) [y, v] [] cp, m =>
      obtain ⟨ma8, m5⟩ := and2 (show (slotB Γ i x && decide (mn = ("insert" : Str)) && mE Γ j y && mE Γ e v && decide (ap.endLine = cp.line)) = true from m)
      obtain ⟨ma9, m4⟩ := and2 ma8
      obtain ⟨ma10, m3⟩ := and2 ma9
      obtain ⟨ma11, m2⟩ := and2 ma10
      obtain rfl := of_decide_eq_true m2
      simp only [evS] at ev
      split at ev
      · rename_i ds n d er ej ee
        split at ev
        · rename_i hl
          cases ev
          simp only [Bool.and_eq_true, decide_eq_true_eq] at hl
          obtain ⟨⟨l1, l2⟩, l3⟩ := hl
          obtain ⟨ee, np⟩ := pure_some ee
          obtain ⟨a, xs, h1, h2, h3, h4, h5⟩ := r.s.at' _ _ er
          refine (ps_expr (pe_bm PySem.F.plainAttrs_list PySem.F.slot_list_insert PySem.F.type_list_insert mt_insert (slot_pe c ma11) (pa_cons pe_wp (pa_cons pe_wp pa_nil (star_cons m4 [] X.env)) (star_cons m3 _ X.env)) rfl (by rw [star_cons m3 _ X.env, star_cons m4 _ X.env]; rfl) (by simpa using m5) (star_cons m3 _ X.env) (by rw [star_cons m4 _ X.env]; rfl))).wp ?_
          refine ⟨.ref a, h1, .inl ⟨rfl, xs, .of h2⟩, ?_⟩
          refine (sndE ob Φ j).1 (r.here c f) m3 ej _ fun v' g' H' x' r' => (sndE ob Φ e).1 ((r.ext x').here c f) m4 ee _ fun v2 g2 H2 x2 r2 => ?_
          have x12 := x'.trans x2
          have h2' := x12.keep a _ h2 h4
          have h5' := RepL.mono x12.le _ _ h5
          cases (show Rep _ _ _ _ from r')
          have z := q σ g2 _ x12.le ((r.ext x12).write er h1 ((h5'.take n.toNat).append (.cons (r2.pure np) (h5'.drop n.toNat))))
          refine ⟨a, xs, n, v2, rfl, rfl, h2', ?_, l1, ?_, ?_⟩
          · rw [h5.len, ← line_eq]; exact l3
          · have := line63'
            omega
          · rw [List.append_assoc]
            exact z
        · cases ev
      · cases ev
  | _ => cases m
theorem snds_popTo {kk i : Nat} {j : E} : SndS ob Φ wf (.popTo kk i j) := by
  refine fun {X Γ k st g0 g H0 H σ ρ fl} c fc f r m ev Dn q => ?_
  cases st with
  | Assign ts v pos =>
    match ts, v, m with
    | [.Name z pz], .Call (.Attribute (.Name x px) mn ap) [y] [] cp, m =>
      obtain ⟨ma12, m6⟩ := and2 (show (tgB Γ kk z && slotB Γ i x && decide (kk ≠ i) && decide (mn = ("pop" : Str)) && mE Γ j y && decide (ap.endLine = cp.line)) = true from m)
      obtain ⟨ma13, m5⟩ := and2 ma12
      obtain ⟨ma14, m4⟩ := and2 ma13
      obtain ⟨ma15, m3⟩ := and2 ma14
      obtain ⟨ma16, m2⟩ := and2 ma15
      obtain rfl := of_decide_eq_true m4
      obtain ⟨hN, hi, hx, hf⟩ := tg_parts c ma16
      simp only [evS] at ev
      split at ev
      · rename_i ds n er ej
        split at ev
        · rename_i hrg
          split at ev
          · rename_i nn hn
            split at ev
            · rename_i d hd
              cases ev
              obtain ⟨a, xs, h1, h2, h3, h4, h5⟩ := r.s.at' _ _ er
              refine (ps_set (i := kk) hN hi hx (pe_bm PySem.F.plainAttrs_list PySem.F.slot_list_pop PySem.F.type_list_pop mt_popAt (slot_pe c m2) (pa_cons pe_wp pa_nil (star_cons m5 [] X.env)) rfl (by rw [star_cons m5 [] X.env]; rfl) (by simpa using m6) (star_cons m5 [] X.env) rfl) rfl hf).wp ?_
              refine ⟨.ref a, h1, .inl ⟨rfl, xs, .of h2⟩, ?_⟩
              refine (sndE ob Φ j).1 (r.here c f) m5 ej _ fun v' g' H' x' r' => ?_
              have r1 := r.ext x'
              have h2' := x'.keep a _ h2 h4
              have h5' := RepL.mono x'.le _ _ h5
              cases (show Rep _ _ _ _ from r')
              obtain ⟨w, hw, rw'⟩ := h5'.get hd
              obtain ⟨s1, s2, s3, s4⟩ := ixN_seq hn
              have hrg' := okRng_of hrg
              refine ⟨a, xs, n, nn, w, rfl, rfl, h2', by omega, by omega, by rw [h5.len]; exact s1, hw, ?_⟩
              exact q _ _ _ x'.le ((r1.write er h1 (h5'.eraseIdx nn)).setVal kk rw')
            · cases ev
          · cases ev
        · cases ev
      · cases ev
  | _ => cases m
theorem snds_popE {i : Nat} : SndS ob Φ wf (.popE i) := by
  refine fun {X Γ k st g0 g H0 H σ ρ fl} c fc f r m ev Dn q => ?_
  cases st with
  | Expr ex pos =>
    match ex, m with
    | .Call (.Attribute (.Name x px) mn ap) [] [] cp, m =>
      obtain ⟨ma17, m3⟩ := and2 (show (slotB Γ i x && decide (mn = ("pop" : Str)) && decide (ap.endLine = cp.line)) = true from m)
      obtain ⟨ma18, m2⟩ := and2 ma17
      obtain rfl := of_decide_eq_true m2
      simp only [evS] at ev
      split at ev
      · rename_i ds er
        split at ev
        · cases ev
        · rename_i hn
          cases ev
          obtain ⟨a, xs, h1, h2, h3, h4, h5⟩ := r.s.at' _ _ er
          refine (ps_expr (pe_bm0 PySem.F.plainAttrs_list PySem.F.slot_list_pop PySem.F.type_list_pop mt_pop (slot_pe c ma18) rfl (by simpa using m3))).wp ?_
          have hx : 0 < xs.length := by
            rw [h5.len]
            cases ds with
            | nil => exact absurd rfl hn
            | cons _ _ => exact Nat.succ_pos _
          refine ⟨.ref a, h1, .inl ⟨rfl, xs, .of h2⟩, a, xs, xs[xs.length - 1], rfl, rfl, h2, List.getElem?_eq_getElem (by omega), q _ _ _ (.refl _) (r.write er h1 h5.dropLast)⟩
      · cases ev
  | _ => cases m
theorem snds_if {t : T} {a b : Ss} (ha : SndSs ob Φ wf a) (hb : SndSs ob Φ wf b) : SndS ob Φ wf (.ifS t a b) := by
  refine fun {X Γ k st g0 g H0 H σ ρ fl} c fc f r m ev Dn q => ?_
  cases st with
  | If cx x y pos =>
    obtain ⟨ma19, m3⟩ := and2 (show (mT Γ t cx && mSs Γ a x && mSs Γ b y) = true from m)
    obtain ⟨ma20, m2⟩ := and2 ma19
    simp only [evS] at ev
    refine (ps_if pt_wp pss_wp pss_wp).wp ?_
    split at ev
    · rename_i et
      refine sndT ob Φ t (r.here c f) ma20 et _ fun g1 H1 x1 => ?_
      show (if true = true then _ else _)
      rw [if_pos rfl]
      exact ha c fc f (r.ext x1) m2 ev Dn (q.le x1.le)
    · rename_i et
      refine sndT ob Φ t (r.here c f) ma20 et _ fun g1 H1 x1 => ?_
      show (if false = true then _ else _)
      rw [if_neg (by decide)]
      exact hb c fc f (r.ext x1) m3 ev Dn (q.le x1.le)
    · cases ev
  | _ => cases m
theorem passes (c : Ctx X Γ) : PassesOwn (model X.prog X.w) X.A X.env X.xe := by
  rw [c.xe]
  exact PassesOwn.never
theorem snds_while {t : T} {b : Ss} (hb : SndSs ob Φ wf b) : SndS ob Φ wf (.whileS t b) := by
  refine fun {X Γ k st g0 g H0 H σ ρ fl} c fc f r m ev Dn q => ?_
  cases st with
  | While cx bx orl pos =>
    cases orl with
    | nil =>
      obtain ⟨ma21, m2⟩ := and2 (show (mT Γ t cx && mSs Γ b bx) = true from m)
      have ev' : whileM (evT Φ t) (evSs Φ wf b) wf ρ = some fl := by simpa only [evS] using ev
      refine (ps_while (passes c) pt_wp pss_wp).wp ⟨fun n σ H => ∃ g1 ρ, SR ob X.K X.w g0 H0 g1 H σ ρ ∧ g.le g1 ∧ whileM (evT Φ t) (evSs Φ wf b) n ρ = some fl, ⟨wf, g, ρ, r, .refl _, ev'⟩, ?_⟩
      rintro n σ1 H1 ⟨g1, ρ1, r1, le1, e1⟩
      cases n with
      | zero => cases e1
      | succ n =>
        unfold whileM at e1
        split at e1
        · cases e1
        · rename_i et
          cases e1
          refine sndT ob Φ t (r1.here c f) ma21 et _ fun g2 H2 x2 => ?_
          show (if false = true then _ else _)
          rw [if_neg (by decide)]
          exact q _ _ _ (le1.trans x2.le) (r1.ext x2)
        · rename_i et
          refine sndT ob Φ t (r1.here c f) ma21 et _ fun g2 H2 x2 => ?_
          show (if true = true then _ else _)
          rw [if_pos rfl]
          refine ⟨fun σ' H' => ∃ g1 ρ, SR ob X.K X.w g0 H0 g1 H' σ' ρ ∧ g.le g1 ∧ whileM (evT Φ t) (evSs Φ wf b) n ρ = some fl, fun σ' H' z => ⟨n, Nat.lt_succ_self n, z⟩, ?_⟩
          split at e1
          · rename_i ρ' eb
            exact hb c fc f (r1.ext x2) m2 eb _ fun σ' g' H' l' r' => ⟨g', ρ', r', (le1.trans x2.le).trans l', e1⟩
          · rename_i ρ' eb
            exact hb c fc f (r1.ext x2) m2 eb _ fun σ' g' H' l' r' => ⟨g', ρ', r', (le1.trans x2.le).trans l', e1⟩
          · rename_i ρ' eb
            cases e1
            exact hb c fc f (r1.ext x2) m2 eb _ fun σ' g' H' l' r' => q _ _ _ ((le1.trans x2.le).trans l') r'
          · rename_i d eb
            cases e1
            exact hb c fc f (r1.ext x2) m2 eb _ (PostF.le (fl := .rt d) q (le1.trans x2.le))
          · cases e1
    | cons _ _ => cases m
  | _ => cases m
theorem snds_for {tg : List Nat} {it : It} {b : Ss} (hb : SndSs ob Φ wf b) : SndS ob Φ wf (.forS tg it b) := by
  refine fun {X Γ k st g0 g H0 H σ ρ fl} c fc f r m ev Dn q => ?_
  cases st with
  | For tx ix bx orl pos =>
    cases orl with
    | nil =>
      obtain ⟨ma22, m3⟩ := and2 (show (mTg Γ tg tx && mIt Γ it ix && mSs Γ b bx) = true from m)
      obtain ⟨ma23, m2⟩ := and2 ma22
      simp only [evS] at ev
      split at ev
      · rename_i ds ei
        refine (ps_for (passes c) c.calm pi_wp pg_wp pss_wp (mIt_set m2 X.env)).wp ?_
        refine (sndIt ob Φ it (r.here c f) m2).2 ei _ fun J g1 H1 x1 en => ?_
        let body : D → Rho → Option Fl := fun d ρ => match setTg tg d ρ with | some ρ' => evSs Φ wf b ρ' | none => none
        refine ⟨fun i n σ H => n = ds.length - i ∧ i ≤ ds.length ∧ ∃ g ρ, SR ob X.K X.w g0 H0 g H σ ρ ∧ g1.le g ∧ forM body (ds.drop i) ρ = some fl, ⟨ds.length, by simp, Nat.zero_le _, g1, ρ, r.ext x1, .refl _, ev⟩, ?_⟩
        rintro i n σ2 H2 ⟨rfl, hi, g2, ρ2, r2, le2, e2⟩
        obtain ⟨en1, en2⟩ := en g2 H2 le2 r2.x.ok i
        by_cases hlt : i < ds.length
        · rw [List.drop_eq_getElem_cons hlt] at e2
          obtain ⟨go, yld⟩ := en1 _ (List.getElem?_eq_getElem hlt)
          refine .inr ⟨go, fun σ' H' => i + 1 ≤ ds.length ∧ ∃ g ρ, SR ob X.K X.w g0 H0 g H' σ' ρ ∧ g1.le g ∧ forM body (ds.drop (i + 1)) ρ = some fl, fun σ' H' z => ⟨_, by omega, rfl, z⟩, fun v H3 y3 => ?_⟩
          obtain ⟨g3, x3, rv⟩ := yld v H3 y3
          have r3 := r2.ext x3
          unfold forM at e2
          -- the target, then the body
          have go2 : ∀ fl', body ds[i] ρ2 = some fl' → ∀ Dn', PostF ob X.K X.w g0 H0 g3 fl' Dn' → wpG X tx v σ2 H3 (fun σ' H' => wpSs X bx Dn' σ' H') := by
            intro fl' eb Dn' q'
            have eb' : (match setTg tg ds[i] ρ2 with | some ρ' => evSs Φ wf b ρ' | none => none) = some fl' := eb
            cases est : setTg tg ds[i] ρ2 with
            | none => rw [est] at eb'; cases eb'
            | some ρ3 =>
              rw [est] at eb'
              cases tx with
              | Name x p =>
                match tg, ma23, est with
                | [j], m1, est =>
                  have := setTg_one est
                  subst this
                  exact (pg_one c m1).wp (hb c fc f (r3.setVal j rv) m3 eb' Dn' q')
              | Tuple ts kk p =>
                match tg, ma23, est with
                | j :: i' :: js, m1, est =>
                  obtain ⟨es, ed, hl, rfl⟩ := setTg_more est
                  have m' : mTgs Γ (j :: i' :: js) ts = true := m1
                  obtain ⟨h1, h2⟩ := assign_len _ _ X.env m'
                  rw [ed] at rv
                  obtain ⟨a, xs, rfl, hs, rl⟩ := RepR.tuple x3.ok (.of rv)
                  refine (pg_tup c.calm (pgs_names c _ _ m') h1 h2).wp ⟨a, xs, rfl, hs, by rw [rl.len, hl], ?_⟩
                  exact gNames_of _ _ _ (by rw [rl.len, hl]) (hb c fc f (r3.setVs rl) m3 eb' Dn' q')
              | _ => cases ma23
          have le3 : g1.le g3 := le2.trans x3.le
          split at e2
          · rename_i ρ' eb
            exact go2 _ eb _ fun σ' g' H' l' r' => ⟨by omega, g', ρ', r', le3.trans l', e2⟩
          · rename_i ρ' eb
            exact go2 _ eb _ fun σ' g' H' l' r' => ⟨by omega, g', ρ', r', le3.trans l', e2⟩
          · rename_i ρ' eb
            cases e2
            exact go2 _ eb _ fun σ' g' H' l' r' => q _ _ _ ((x1.le.trans le3).trans l') r'
          · rename_i d eb
            cases e2
            exact go2 _ eb _ (PostF.le (fl := .rt d) q (x1.le.trans le3))
          · cases e2
        · rw [List.drop_eq_nil_of_le (by omega)] at e2
          cases e2
          exact .inl ⟨en2 (by omega), q _ _ _ (x1.le.trans le2) r2⟩
      · cases ev
    | cons _ _ => cases m
  | _ => cases m
end
end MP

set_option maxHeartbeats 1000000
/-! MiniPy: blocks, defs, a table of defs. -/
namespace MP
open PySem PySem.Spec PyProof.Rows L2
section
variable {ob : Ob} {Φ : Nat → List D → Option D} {wf : Nat} {X : Cx} {Γ : Gam} {k : Nat} {g0 g : Gh} {H0 H : Hp} {σ : L2.St} {ρ : Rho}
theorem snds_ret {e : E} : SndS ob Φ wf (.ret e) := by
  refine fun {X Γ k st g0 g H0 H σ ρ fl} c fc f r m ev Dn q => ?_
  simp only [evS] at ev
  split at ev
  · rename_i d ed
    cases ev
    obtain ⟨ed, np⟩ := pure_some ed
    cases st with
    | Return o pos =>
      cases o with
      | some v =>
        refine (ps_ret pe_wp).wp ((sndE ob Φ e).1 (r.here c f) (show mE Γ e v = true by cases e <;> exact m) ed _ fun v' g' H' x' r' => ?_)
        exact q _ _ _ (r.x.trans x') (r'.pure np)
      | none =>
        cases e with
        | cnon =>
          cases (show some D.non = some d from ed)
          exact PS.wp ps_retN (q _ _ _ r.x .non)
        | _ => cases m
    | _ => cases e <;> cases m
  · cases ev
theorem snds_brk : SndS ob Φ wf .brk := by
  refine fun {X Γ k st g0 g H0 H σ ρ fl} c fc f r m ev Dn q => ?_
  cases (show some (Fl.bk ρ) = some fl from ev)
  cases st with
  | Break p => exact PS.wp ps_break (q _ _ _ (.refl _) r)
  | _ => cases m
theorem snds_cont : SndS ob Φ wf .cont := by
  refine fun {X Γ k st g0 g H0 H σ ρ fl} c fc f r m ev Dn q => ?_
  cases (show some (Fl.ct ρ) = some fl from ev)
  cases st with
  | Continue p => exact PS.wp ps_continue (q _ _ _ (.refl _) r)
  | _ => cases m
theorem snds_pass : SndS ob Φ wf .pass := by
  refine fun {X Γ k st g0 g H0 H σ ρ fl} c fc f r m ev Dn q => ?_
  cases (show some (Fl.nx ρ) = some fl from ev)
  cases st with
  | Pass p => exact PS.wp ps_pass (q _ _ _ (.refl _) r)
  | _ => cases m
theorem snds_bad : SndS ob Φ wf .bad := by
  refine fun {X Γ k st g0 g H0 H σ ρ fl} c fc f r m ev Dn q => ?_
  cases (show none = some fl from ev)
theorem sndss_nil : SndSs ob Φ wf .nil := by
  refine fun {X Γ k sts g0 g H0 H σ ρ fl} c fc f r m ev Dn q => ?_
  cases (show some (Fl.nx ρ) = some fl from ev)
  cases sts with
  | nil => exact PSs.wp pss_nil (q _ _ _ (.refl _) r)
  | cons _ _ => cases m
theorem sndss_cons {s : S} {ss : Ss} (hs : SndS ob Φ wf s) (hss : SndSs ob Φ wf ss) : SndSs ob Φ wf (.cons s ss) := by
  refine fun {X Γ k sts g0 g H0 H σ ρ fl} c fc f r m ev Dn q => ?_
  by_cases hz : ∃ i, s = .frz i
  · obtain ⟨i, rfl⟩ := hz
    have m' : mSs Γ ss sts = true := by cases sts <;> exact m
    simp only [evSs, evS] at ev
    cases e : ρ[i]? with
    | none => rw [e] at ev; cases ev
    | some sv =>
      rw [e] at ev
      cases sv with
      | mls ds =>
        obtain ⟨g', le, r'⟩ := r.frz e
        exact hss c fc f r' m' ev Dn (q.le le)
      | non => cases ev
      | val d => cases ev
      | mdc d => cases ev
  · have txt : ∃ st rest, sts = st :: rest ∧ mS Γ s st = true ∧ mSs Γ ss rest = true := by
      cases sts with
      | nil => cases s <;> first | cases m | exact absurd ⟨_, rfl⟩ hz
      | cons st rest =>
        have m' : (mS Γ s st && mSs Γ ss rest) = true := by cases s <;> first | exact m | exact absurd ⟨_, rfl⟩ hz
        obtain ⟨m1, m2⟩ := and2 m'
        exact ⟨st, rest, rfl, m1, m2⟩
    obtain ⟨st, rest, rfl, m1, m2⟩ := txt
    simp only [evSs] at ev
    refine (pss_cons ps_wp pss_wp).wp ?_
    cases e : evS Φ wf s ρ with
    | none => rw [e] at ev; cases ev
    | some fl1 =>
      rw [e] at ev
      refine hs c fc f r m1 e _ ?_
      cases fl1 with
      | nx ρ' => exact fun σ' g' H' le r' => hss c fc f r' m2 ev Dn (q.le le)
      | bk ρ' => cases ev; exact q
      | ct ρ' => cases ev; exact q
      | rt d => cases ev; exact q
end
section
variable (ob : Ob) (Φ : Nat → List D → Option D) (wf : Nat)
theorem snds_frz {i : Nat} : SndS ob Φ wf (.frz i) := by
  refine fun {X Γ k st g0 g H0 H σ ρ fl} c fc f r m ev Dn q => ?_
  cases st <;> cases m
mutual
theorem sndS : (s : S) → SndS ob Φ wf s
  | .set i e => snds_set
  | .setM i e => snds_setM
  | .unp is e => snds_unp
  | .par i j a b => snds_par
  | .aug i op e => snds_aug
  | .app i e => snds_app
  | .setIx i j e => snds_setIx
  | .ins i j e => snds_ins
  | .popTo k i j => snds_popTo
  | .popE i => snds_popE
  | .ifS t a b => snds_if (sndSs a) (sndSs b)
  | .forS tg it b => snds_for (sndSs b)
  | .whileS t b => snds_while (sndSs b)
  | .ret e => snds_ret
  | .brk => snds_brk
  | .cont => snds_cont
  | .pass => snds_pass
  | .frz i => snds_frz ob Φ wf
  | .bad => snds_bad
  | .dnew i => snds_dnew
  | .dset i k e => snds_dset
theorem sndSs : (s : Ss) → SndSs ob Φ wf s
  | .nil => sndss_nil
  | .cons s ss => sndss_cons (sndS s) (sndSs ss)
end
end
/-! ### defs -/
theorem start_slots {K : PySem.W.Frag} {wd : World} {g : Gh} {H : Hp} {N : List Str} {fd : Fd} {vs : List V} {ds : List D} (r : RepL K g vs ds) (hl : ds.length = fd.np) (hn : N.length = fd.ns) : Slots K wd g H (L2.start N vs) (start0 fd ds) := by
  have e := r.len
  refine ⟨?_, fun i sv q => ?_⟩
  · unfold L2.start start0
    rw [List.length_append, List.length_append, List.length_map, List.length_map, List.length_replicate, List.length_replicate]
    omega
  · unfold start0 at q
    by_cases hi : i < ds.length
    · rw [List.getElem?_append_left (by simpa using hi), List.getElem?_map, List.getElem?_eq_getElem hi] at q
      cases q
      obtain ⟨v, hv, rv⟩ := r.get (List.getElem?_eq_getElem hi)
      refine ⟨v, ?_, rv⟩
      unfold L2.start
      rw [List.getElem?_append_left (by rw [List.length_map]; omega), List.getElem?_map, hv]
      rfl
    · rw [List.getElem?_append_right (by simpa using hi), List.getElem?_replicate] at q
      split at q
      · cases q; trivial
      · cases q
theorem start_no {fd : Fd} {ds es : List D} {i : Nat} (q : (start0 fd ds)[i]? = some (.mls es)) : False := by
  unfold start0 at q
  by_cases hi : i < ds.length
  · rw [List.getElem?_append_left (by simpa using hi), List.getElem?_map, List.getElem?_eq_getElem hi] at q
    cases q
  · rw [List.getElem?_append_right (by simpa using hi), List.getElem?_replicate] at q
    split at q <;> cases q
theorem start_noD {fd : Fd} {ds : List D} {es : List (NestedKey × D)} {i : Nat} (q : (start0 fd ds)[i]? = some (.mdc es)) : False := by
  unfold start0 at q
  by_cases hi : i < ds.length
  · rw [List.getElem?_append_left (by simpa using hi), List.getElem?_map, List.getElem?_eq_getElem hi] at q
    cases q
  · rw [List.getElem?_append_right (by simpa using hi), List.getElem?_replicate] at q
    split at q <;> cases q
theorem spF_len {ob : Ob} {K : PySem.W.Frag} {φ : List D → Option D} {n : Nat} (h : ∀ ds d, φ ds = some d → ds.length = n) {vs : List V} {H : Hp} {Q : VK} {E : XK} (s : spF ob K φ vs H Q E) : vs.length = n := by
  obtain ⟨g, ds, d, _, r, e, _⟩ := s
  rw [r.len]
  exact h ds d e
theorem fn_ok {ob : Ob} {Φ : Nat → List D → Option D} {wf : Nat} {P : Program} {w : World} {K : PySem.W.Frag} {mg : Str → Option Value} {base : Heap} {x qual : Str} {st : Stmt} {dvs : List V} {kws : List (Str × V)} {f : Addr} {fdt : FuncData} {N ps : List Str} {k : Nat} {fd : Fd} {fname : Nat → Option Str} {dfl : Nat → List (List Int)}
    (F : FunD K x qual (defArgs st) (defBody st) (defScope st) dvs kws f fdt) (S : FnScope N ps (defScope st)) (hn : N.length = fd.ns) (hp : ps.length = fd.np) (m : mSs ⟨N, defScope st, none, fname, dfl⟩ fd.body (defBody st) = true)
    (fns : ∀ f x, fname f = some x → ∃ (a : Addr) (fd : FuncData) (ps : List Str), mg x = some (.ref a) ∧ PySem.W.keepIn K (.ref a) = true ∧ FnOk P w K mg base CX0 k a fd ps (spF ob K (Φ f)) ∧ ∀ dv ∈ dfl f, ∃ us, Vals (dv.map V.int) us ∧ Binds K fd ps us)
    (bl : ∀ x ∈ ([("len" : Str), "abs", "int", "list", "tuple", "isinstance", "range", "bool", "str"] : List Str), mg x = none) :
    FnOk P w K mg base CX0 (k + 1) f fdt ps (spF ob K (bodyD Φ wf fd)) := by
  have hlen : ∀ ds d, bodyD Φ wf fd ds = some d → ds.length = fd.np := fun ds d e => by
    unfold bodyD at e
    split at e
    · rename_i h; exact of_decide_eq_true h
    · cases e
  refine F.ok S (fun vs H Q E s => by rw [hp]; exact spF_len hlen s) fun cdv A outer s H vs Q E hr hsp => ?_
  refine ⟨_, PSs.nox pss_wp, ?_⟩
  obtain ⟨g, ds, d, wo, r, e, q⟩ := hsp
  have hl := hlen ds d e
  let X : Cx := (cxOf CX0 P w K mg base N qual (defScope st) f cdv A outer s H E).nox
  have c : Ctx X ⟨N, defScope st, none, fname, dfl⟩ := ⟨rfl, rfl, fun _ => rfl, S.nd, rfl, rfl, S.kind⟩
  have fs : Fns ob Φ X ⟨N, defScope st, none, fname, dfl⟩ k := ⟨hr, fns, bl⟩
  have r0 : SR ob K w g H g H (L2.start N vs) (start0 fd ds) := ⟨Ext.refl wo, start_slots r hl hn, fun i es a z => (start_no z).elim, fun i j es es' a z => (start_no z).elim, fun i es a z => (start_noD z).elim, fun i j es es' a z => (start_noD z).elim⟩
  unfold bodyD at e
  rw [if_pos (decide_eq_true hl)] at e
  split at e
  · rename_i d' ed
    cases e
    exact sndSs ob Φ wf fd.body c rfl fs r0 m ed _ fun v g' H' x' r' => q v g' H' x' r'
  · rename_i ρ' ed
    cases e
    exact sndSs ob Φ wf fd.body c rfl fs r0 m ed _ fun σ' g' H' le r' => q _ g' H' r'.x .non
  · cases e
/-! ### a table of defs -/
structure Ent where
  x : Str
  st : Stmt
  N : List Str
  ps : List Str
  fd : Fd
  dfl : List (List Int)
def nameOf (es : List Ent) (f : Nat) : Option Str := (es[f]?).map (·.x)
def dflOf (es : List Ent) (f : Nat) : List (List Int) := match es[f]? with | some e => e.dfl | none => []
def fnScopeB (N P : List Str) (sc : Scope) : Bool :=
  decide (sc.kind = .function) && decide (sc.isCoroutine = false) && decide (sc.isGenerator = false) && decide N.Nodup && decide (N.take P.length = P) &&
    P.all (fun x => decide (sc.names.lookup x = some .local) || decide (sc.names.lookup x = some .cell)) && sc.names.all (fun y => decide (y.2 ≠ .free))
theorem fnScope_of {N P : List Str} {sc : Scope} (h : fnScopeB N P sc = true) : FnScope N P sc := by
  unfold fnScopeB at h
  simp only [Bool.and_eq_true, decide_eq_true_eq, List.all_eq_true, Bool.or_eq_true] at h
  obtain ⟨⟨⟨⟨⟨⟨h1, h2⟩, h3⟩, h4⟩, h5⟩, h6⟩, h7⟩ := h
  exact ⟨h1, h2, h3, h4, h5, h6, h7⟩
def chkEnt (es : List Ent) (e : Ent) : Bool := fnScopeB e.N e.ps (defScope e.st) && decide (e.N.length = e.fd.ns) && decide (e.ps.length = e.fd.np) && mSs ⟨e.N, defScope e.st, none, nameOf es, dflOf es⟩ e.fd.body (defBody e.st)
/-- what the head knows of a def -/
def EntOk (K : PySem.W.Frag) (mg : Str → Option Value) (e : Ent) : Prop := ∃ (y qual : Str) (dvs : List V) (kws : List (Str × V)) (f : Addr) (fdt : FuncData), FunD K y qual (defArgs e.st) (defBody e.st) (defScope e.st) dvs kws f fdt ∧ mg e.x = some (.ref f) ∧
  (∀ dv ∈ e.dfl, ∃ us, Vals (dv.map V.int) us ∧ Binds K fdt e.ps us) ∧ (e.x = "law" → ∀ (s : Shared) (u : Value), e.ps.length = 1 → BindsTo s fdt ⟨[u], []⟩ (e.ps.zip [u]))
theorem tab_fn {ob : Ob} {wf : Nat} {P : Program} {w : World} {K : PySem.W.Frag} {mg : Str → Option Value} {es : List Ent} (hc : es.all (chkEnt es) = true) (he : ∀ e ∈ es, EntOk K mg e)
    (bl : ∀ x ∈ ([("len" : Str), "abs", "int", "list", "tuple", "isinstance", "range", "bool", "str"] : List Str), mg x = none) {base : Heap} :
    ∀ (n f : Nat) (e : Ent), es[f]? = some e → ∀ {y qual : Str} {dvs : List V} {kws : List (Str × V)} {a : Addr} {fdt : FuncData}, FunD K y qual (defArgs e.st) (defBody e.st) (defScope e.st) dvs kws a fdt → FnOk P w K mg base CX0 n a fdt e.ps (spF ob K (run (es.map (·.fd)) wf n f)) := by
  intro n
  induction n with
  | zero =>
    intro f e hf y qual dvs kws a fdt F
    refine ⟨fun vs H Q E s => ?_, fun A outer s H args us vs Q E _ _ _ _ s' => ?_⟩
    · obtain ⟨_, _, _, _, _, z, _⟩ := s
      cases z
    · obtain ⟨_, _, _, _, _, z, _⟩ := s'
      cases z
  | succ n ih =>
    intro f e hf y qual dvs kws a fdt F
    have hmem := List.mem_of_getElem? hf
    have hce := List.all_eq_true.mp hc e hmem
    unfold chkEnt at hce
    obtain ⟨hce, h4⟩ := and2 hce
    obtain ⟨hce, h3⟩ := and2 hce
    obtain ⟨h1, h2⟩ := and2 hce
    have ht : (es.map (·.fd))[f]? = some e.fd := by rw [List.getElem?_map, hf]; rfl
    rw [run_eq ht]
    refine fn_ok F (fnScope_of h1) (of_decide_eq_true h2) (of_decide_eq_true h3) h4 (fun f' x' hx => ?_) bl
    unfold nameOf at hx
    cases q : es[f']? with
    | none => rw [q] at hx; cases hx
    | some e' =>
      rw [q] at hx
      cases hx
      obtain ⟨y', qual', dvs', kws', a', fdt', F', hm', hb', _⟩ := he e' (List.mem_of_getElem? q)
      refine ⟨a', fdt', e'.ps, hm', F'.kp, ih f' e' q F', fun dv hdv => hb' dv ?_⟩
      unfold dflOf at hdv
      rw [q] at hdv
      exact hdv
end MP

/-! MiniPy: what a head must tell of a def; the end. -/
namespace MP
open PySem PySem.Spec PyProof.Rows L2
theorem ent_mk {w : World} {K : PySem.W.Frag} {h : Heap} {mg : Str → Option Value} {e : Ent} {y : Str} {f : Addr} {od an : Option Addr} {sl : Array (Option Value)} {oc kV dc pm cd ct : Value} (X : K.In h) (G : h.Ns mainGlobals mg)
    (a : PySem.W.nsIn K mainGlobals e.x = some (some (.ref f))) (l : K.lookup f = some ⟨oc, od, .func (PySem.W.fnOf y y (defArgs e.st) (defBody e.st) (defScope e.st) .none kV dc pm an cd ct), sl⟩)
    (c : PySem.W.codeIn K cd y = true) (k : PySem.W.keepIn K (.ref f) = true) (hd : e.dfl = [[]])
    (hb : ∀ (kV doc pm : Value) (an : Option Addr) (cdv ct : Value) (us : List Value), us.length = e.ps.length → bindArgs (PySem.W.fnOf y y (defArgs e.st) (defBody e.st) (defScope e.st) .none kV doc pm an cdv ct) ⟨us, []⟩ = pure (e.ps.zip us)) : EntOk K mg e := by
  have F : FunD K y y (defArgs e.st) (defBody e.st) (defScope e.st) [] [] f (PySem.W.fnOf y y (defArgs e.st) (defBody e.st) (defScope e.st) .none kV dc pm an cd ct) :=
    ⟨⟨oc, od, .none, kV, dc, pm, an, cd, ct, sl, rfl, l, c, .inl ⟨rfl, rfl⟩, .inl rfl⟩, k⟩
  refine ⟨y, y, [], [], f, _, F, PySem.W.mg_of X G a, fun dv hdv => ?_, fun _ s u h1 => .of_eq (hb _ _ _ _ _ _ [u] h1.symm)⟩
  rw [hd] at hdv
  simp only [List.mem_singleton] at hdv
  subst hdv
  exact ⟨[], .nil, F.bindsN hb⟩
/-- a def with one default (an int): all parameters given, or the last one lacking -/
theorem ent_mk1 {w : World} {K : PySem.W.Frag} {h : Heap} {mg : Str → Option Value} {e : Ent} {y : Str} {f T : Addr} {od an : Option Addr} {sl : Array (Option Value)} {oc kV dc pm cd ct : Value} {i : Int} {o : Obj} {t : Tok} {n : Nat} (X : K.In h) (G : h.Ns mainGlobals mg)
    (a : PySem.W.nsIn K mainGlobals e.x = some (some (.ref f))) (l : K.lookup f = some ⟨oc, od, .func (PySem.W.fnOf y y (defArgs e.st) (defBody e.st) (defScope e.st) (.ref T) kV dc pm an cd ct), sl⟩)
    (c : PySem.W.codeIn K cd y = true) (k : PySem.W.keepIn K (.ref f) = true) (lT : K.lookup T = some o) (oT : o.data = .seq #[.int i t] n) {m : Nat} (hm : e.ps.length = m + 1) (hd : ∀ dv ∈ e.dfl, dv = [] ∨ dv = [i]) (hx : e.x ≠ "law")
    (hb0 : ∀ (T : Addr) (kV doc pm : Value) (an : Option Addr) (cdv ct : Value) (us its : List Value), us.length = m + 1 → its.length = 1 →
      ∃ k, bindArgs (PySem.W.fnOf y y (defArgs e.st) (defBody e.st) (defScope e.st) (.ref T) kV doc pm an cdv ct) ⟨us, []⟩ = seqItems? (.ref T) >>= k ∧ k (some its.toArray) = pure (e.ps.zip (us ++ its.drop 1)))
    (hb1 : ∀ (T : Addr) (kV doc pm : Value) (an : Option Addr) (cdv ct : Value) (us its : List Value), us.length = m → its.length = 1 →
      ∃ k, bindArgs (PySem.W.fnOf y y (defArgs e.st) (defBody e.st) (defScope e.st) (.ref T) kV doc pm an cdv ct) ⟨us, []⟩ = seqItems? (.ref T) >>= k ∧ k (some its.toArray) = pure (e.ps.zip (us ++ its.drop 0))) : EntOk K mg e := by
  have F : FunD K y y (defArgs e.st) (defBody e.st) (defScope e.st) [.int i] [] f (PySem.W.fnOf y y (defArgs e.st) (defBody e.st) (defScope e.st) (.ref T) kV dc pm an cd ct) :=
    ⟨⟨oc, od, .ref T, kV, dc, pm, an, cd, ct, sl, rfl, l, c, .inr ⟨by simp, T, o, [.int i t], n, rfl, lT, oT, .cons ⟨t, rfl⟩ .nil⟩, .inl rfl⟩, k⟩
  refine ⟨y, y, [.int i], [], f, _, F, PySem.W.mg_of X G a, fun dv hdv => ?_, fun z => absurd z hx⟩
  rcases hd dv hdv with rfl | rfl
  · obtain ⟨ds, r, b⟩ := F.binds1 (m + 1) 1 (by simp) (by rw [hm]; rfl) hb0
    exact ⟨ds, r, b⟩
  · obtain ⟨ds, r, b⟩ := F.binds1 m 0 (by simp) (by rw [hm]; rfl) hb1
    exact ⟨ds, r, b⟩
/-- no objects with a cache -/
def ob0 : Ob := ⟨fun _ _ _ => False, fun _ h => h⟩
/-- the law's promise -/
def spLaw (K : PySem.W.Frag) : Sp := fun vs H Q _ => ∃ (a : Addr) (ns : List Int), vs = [.ref a] ∧ SqL K H a (ns.map V.int) ∧ ns.length ≤ 63 ∧ ∀ H', Q (.bl true) H'
theorem law_sp {K : PySem.W.Frag} {φ : List D → Option D} (h : ∀ ns : List Int, ns.length ≤ 63 → φ [.lst (ns.map .int)] = some (.bl true)) : ∀ vs H Q E, spLaw K vs H Q E → spF ob0 K φ vs H Q E := by
  intro vs H Q E s
  obtain ⟨a, ns, rfl, hr, hl, q⟩ := s
  refine ⟨⟨H, fun _ => none⟩, _, _, ⟨fun a o e => e, fun a c e => (by cases e), fun a o e => rfl⟩, .cons (.lst hr (RepL.ints ns)) .nil, h ns hl, fun v g' H' x r => ?_⟩
  cases r
  exact q H'
end MP

/-! Fractions of a program as rationals: the defs common, fraction, plus .. and the law's own. -/
namespace MP
open PySem L2
/-- one turn of a for -/
def stepF (Φ : Nat → List D → Option D) (wf : Nat) (tg : List Nat) (body : Ss) (d : D) (ρ : Rho) : Option Fl := match setTg tg d ρ with | some ρ' => evSs Φ wf body ρ' | none => none
theorem evS_forF {Φ : Nat → List D → Option D} {wf : Nat} {ρ : Rho} (tg : List Nat) (it : It) (body : Ss) : evS Φ wf (.forS tg it body) ρ = (match evItF Φ it ρ with
    | some ds => forM (stepF Φ wf tg body) ds ρ
    | none => none) := id rfl
theorem forM_cons (f : D → Rho → Option Fl) (d : D) (ds : List D) (ρ : Rho) : forM f (d :: ds) ρ = (match f d ρ with
    | some (.nx ρ') => forM f ds ρ'
    | some (.ct ρ') => forM f ds ρ'
    | some (.bk ρ') => some (.nx ρ')
    | some (.rt d) => some (.rt d)
    | none => none) := id rfl
@[simp] theorem forM_nil (f : D → Rho → Option Fl) (ρ : Rho) : forM f [] ρ = some (.nx ρ) := id rfl
def fr (q : Rat) : D := .tup [.int q.num, .int (q.den : Int)]
def Bi (k : Nat) (i : Int) : Prop := i.natAbs < 2 ^ k
structure Sz (k : Nat) (q : Rat) : Prop where
  n : Bi k q.num
  d : q.den < 2 ^ k
theorem Bi.mono {j k : Nat} {i : Int} (h : Bi j i) (l : j ≤ k) : Bi k i := Nat.lt_of_lt_of_le h (Nat.pow_le_pow_right (by decide) l)
theorem Sz.mono {j k : Nat} {q : Rat} (h : Sz j q) (l : j ≤ k) : Sz k q := ⟨h.n.mono l, Nat.lt_of_lt_of_le h.d (Nat.pow_le_pow_right (by decide) l)⟩
theorem Sz.d' {k : Nat} {q : Rat} (h : Sz k q) : Bi k (q.den : Int) := h.d
theorem Bi.log {k : Nat} {i : Int} (h : Bi k i) (hk : 0 < k) : i.natAbs.log2 < k := PySem.Flt.log2_lt_of hk h
theorem Bi.mul {j k : Nat} {a b : Int} (h : Bi j a) (h' : Bi k b) : Bi (j + k) (a * b) := by
  unfold Bi
  rw [Int.natAbs_mul, Nat.pow_add]
  exact Nat.mul_lt_mul'' h h'
theorem Bi.add {k : Nat} {a b : Int} (h : Bi k a) (h' : Bi k b) : Bi (k + 1) (a + b) := by
  unfold Bi at *
  rw [Nat.pow_succ]
  omega
theorem Bi.sub {k : Nat} {a b : Int} (h : Bi k a) (h' : Bi k b) : Bi (k + 1) (a - b) := by
  unfold Bi at *
  rw [Nat.pow_succ]
  omega
theorem mulOk_of {j k : Nat} {a b : Int} (h : Bi j a) (h' : Bi k b) (l : j + k ≤ 900000) : mulOk a b = true := by
  have h1 := (h.mono (Nat.le_succ j)).log (Nat.succ_pos j)
  have h2 := (h'.mono (Nat.le_succ k)).log (Nat.succ_pos k)
  unfold mulOk
  exact decide_eq_true (by omega)
/-- the pair that fraction hands back -/
theorem frac_pair {n d : Int} (hd : d ≠ 0) : n.fdiv (if d < 0 then -(Nat.gcd n.natAbs d.natAbs : Int) else (Nat.gcd n.natAbs d.natAbs : Int)) = (Rat.divInt n d).num ∧
    d.fdiv (if d < 0 then -(Nat.gcd n.natAbs d.natAbs : Int) else (Nat.gcd n.natAbs d.natAbs : Int)) = ((Rat.divInt n d).den : Int) := by
  have hg : Int.gcd d n = Nat.gcd n.natAbs d.natAbs := by rw [Int.gcd, Nat.gcd_comm]
  rw [Rat.num_divInt, Rat.den_divInt, if_neg hd, hg]
  generalize hG : Nat.gcd n.natAbs d.natAbs = G
  by_cases hneg : d < 0
  · rw [if_pos hneg, Int.sign_eq_neg_one_of_neg hneg]
    constructor
    · rw [← Int.neg_fdiv_neg, Int.neg_neg, Int.fdiv_eq_ediv_of_nonneg _ (by omega), Int.neg_one_mul]
    · rw [← Int.neg_fdiv_neg, Int.neg_neg, Int.fdiv_eq_ediv_of_nonneg _ (by omega)]
      have : -d = (d.natAbs : Int) := by omega
      rw [this]
      rfl
  · have hp : 0 < d := by omega
    rw [if_neg hneg, Int.sign_eq_one_of_pos hp]
    constructor
    · rw [Int.fdiv_eq_ediv_of_nonneg _ (by omega), Int.one_mul]
    · rw [Int.fdiv_eq_ediv_of_nonneg _ (by omega)]
      have : d = (d.natAbs : Int) := by omega
      rw [this]
      rfl
theorem add_divInt (a b : Rat) : Rat.divInt (a.num * b.den + b.num * a.den) (a.den * b.den) = a + b := by
  rw [Rat.add_def', ← Rat.divInt_ofNat]; rfl
theorem sub_divInt (a b : Rat) : Rat.divInt (a.num * b.den - b.num * a.den) (a.den * b.den) = a - b := by
  rw [Rat.sub_def', ← Rat.divInt_ofNat]; rfl
theorem mul_divInt (a b : Rat) : Rat.divInt (a.num * b.num) (a.den * b.den) = a * b := by
  rw [Rat.mul_def', ← Rat.divInt_ofNat]; rfl
theorem div_divInt (a b : Rat) : Rat.divInt (a.num * b.den) (a.den * b.num) = a / b := by
  rw [Rat.div_def, Rat.inv_def, ← Rat.num_divInt_den a, Rat.divInt_mul_divInt, Rat.num_divInt_den]
theorem den_ne (a : Rat) : (a.den : Int) ≠ 0 := by have := a.den_nz; omega
theorem icast_ne {z : Int} (h : z ≠ 0) : (z : Rat) ≠ 0 := fun e => h (by simpa using e)
theorem divInt_mul {n d : Int} (h : d ≠ 0) : Rat.divInt n d * (d : Rat) = n := by
  rw [Rat.divInt_eq_div, Rat.div_mul_cancel (icast_ne h)]
/-! ### sizes -/
/-- a fraction with these parts above and below, not in lowest terms, has no greater ones -/
theorem Sz.of {k : Nat} {q : Rat} {n d : Int} (hd : d ≠ 0) (e : q * d = n) (hn : Bi k n) (hdd : Bi k d) : Sz k q := by
  have eq : q = Rat.divInt n d := by
    rw [Rat.divInt_eq_div, ← e]
    rw [Rat.mul_div_cancel (icast_ne hd)]
  constructor
  · rw [eq, Rat.num_divInt]
    refine Nat.lt_of_le_of_lt ?_ hn
    rw [Int.natAbs_ediv_of_dvd]
    · refine Nat.le_trans (Nat.div_le_self _ _) ?_
      rw [Int.natAbs_mul]
      have : d.sign.natAbs ≤ 1 := by rcases Int.sign_trichotomy d with h | h | h <;> rw [h] <;> decide
      calc d.sign.natAbs * n.natAbs ≤ 1 * n.natAbs := Nat.mul_le_mul_right _ this
        _ = n.natAbs := Nat.one_mul _
    · exact Int.dvd_mul_of_dvd_right (Int.gcd_dvd_right ..)
  · rw [eq, Rat.den_divInt, if_neg hd]
    exact Nat.lt_of_le_of_lt (Nat.div_le_self _ _) hdd
theorem Sz.add {j k : Nat} {a b : Rat} (h : Sz j a) (h' : Sz k b) : Sz (j + k + 1) (a + b) := by
  refine Sz.of (n := a.num * b.den + b.num * a.den) (d := a.den * b.den) (Int.mul_ne_zero (den_ne a) (den_ne b)) ?_ ?_ ?_
  · rw [← add_divInt]
    exact divInt_mul (Int.mul_ne_zero (den_ne a) (den_ne b))
  · exact (h.n.mul h'.d').add (by rw [Nat.add_comm]; exact h'.n.mul h.d')
  · exact (h.d'.mul h'.d').mono (by omega)
theorem Sz.sub {j k : Nat} {a b : Rat} (h : Sz j a) (h' : Sz k b) : Sz (j + k + 1) (a - b) := by
  refine Sz.of (n := a.num * b.den - b.num * a.den) (d := a.den * b.den) (Int.mul_ne_zero (den_ne a) (den_ne b)) ?_ ?_ ?_
  · rw [← sub_divInt]
    exact divInt_mul (Int.mul_ne_zero (den_ne a) (den_ne b))
  · exact (h.n.mul h'.d').sub (by rw [Nat.add_comm]; exact h'.n.mul h.d')
  · exact (h.d'.mul h'.d').mono (by omega)
theorem Sz.mul {j k : Nat} {a b : Rat} (h : Sz j a) (h' : Sz k b) : Sz (j + k) (a * b) := by
  refine Sz.of (n := a.num * b.num) (d := a.den * b.den) (Int.mul_ne_zero (den_ne a) (den_ne b)) ?_ (h.n.mul h'.n) (h.d'.mul h'.d')
  exact (congrArg (· * _) (mul_divInt a b).symm).trans (divInt_mul (Int.mul_ne_zero (den_ne a) (den_ne b)))
theorem num_ne {b : Rat} (hb : b ≠ 0) : b.num ≠ 0 := fun z => hb (Rat.num_eq_zero.mp z)
theorem Sz.div {j k : Nat} {a b : Rat} (h : Sz j a) (h' : Sz k b) (hb : b ≠ 0) : Sz (j + k) (a / b) := by
  refine Sz.of (n := a.num * b.den) (d := a.den * b.num) (Int.mul_ne_zero (den_ne a) (num_ne hb)) ?_ (h.n.mul h'.d') (h.d'.mul h'.n)
  rw [← div_divInt]
  exact divInt_mul (Int.mul_ne_zero (den_ne a) (num_ne hb))
theorem Sz.neg {k : Nat} {a : Rat} (h : Sz k a) : Sz k (-a) := ⟨by show (-a.num).natAbs < _; rw [Int.natAbs_neg]; exact h.n, h.d⟩
/-! ### Euclid -/
theorem mod_half {b r : Nat} (h : r < b) (hr : 0 < r) : 2 * (b % r) < b := by
  have h1 : b % r < r := Nat.mod_lt _ hr
  have h2 : b % r + r ≤ b := by
    have := Nat.div_add_mod b r
    have h3 : 1 ≤ b / r := (Nat.one_le_div_iff hr).mpr (Nat.le_of_lt h)
    have h4 : r * 1 ≤ r * (b / r) := Nat.mul_le_mul_left _ h3
    omega
  omega
theorem fmod_nat (a b : Nat) : (a : Int).fmod (b : Int) = ((a % b : Nat) : Int) := by
  rw [Int.fmod_eq_emod_of_nonneg _ (by omega)]; rfl
def commonFd : Fd := ⟨2, 2, (.cons (.set 0 (.prim .abs (.cons (.slot 0) .nil))) (.cons (.set 1 (.prim .abs (.cons (.slot 1) .nil))) (.cons (.whileS (.cmp .gt (.slot 1) (.cint 0)) (.cons (.par 0 1 (.slot 1) (.bin .mod (.slot 0) (.slot 1))) .nil)) (.cons (.ret (.slot 0)) .nil))))⟩
section
variable {tab : List Fd} {wf : Nat}
theorem gcd_turn (Φ : Nat → List D → Option D) (a b : Nat) : evT Φ (.cmp .gt (.slot 1) (.cint 0)) [.val (.int a), .val (.int b)] = some (decide ((0 : Int) < b)) ∧
    (0 < b → evSs Φ wf (.cons (.par 0 1 (.slot 1) (.bin .mod (.slot 0) (.slot 1))) .nil) [.val (.int a), .val (.int b)] = some (.nx [.val (.int b), .val (.int ((a % b : Nat) : Int))])) := by
  refine ⟨by simp, fun hb => ?_⟩
  have : ((b : Int) ≠ 0) := by omega
  simp [bin_mod this, fmod_nat]
theorem gcd_loop (Φ : Nat → List D → Option D) : ∀ (j a b m : Nat), b < 2 ^ j → 2 * j + 1 ≤ m →
    whileM (evT Φ (.cmp .gt (.slot 1) (.cint 0))) (evSs Φ wf (.cons (.par 0 1 (.slot 1) (.bin .mod (.slot 0) (.slot 1))) .nil)) m [.val (.int a), .val (.int b)] = some (.nx [.val (.int (Nat.gcd a b : Nat)), .val (.int 0)]) := by
  have stop : ∀ (a m : Nat), 1 ≤ m → whileM (evT Φ (.cmp .gt (.slot 1) (.cint 0))) (evSs Φ wf (.cons (.par 0 1 (.slot 1) (.bin .mod (.slot 0) (.slot 1))) .nil)) m [.val (.int a), .val (.int ((0 : Nat) : Int))] = some (.nx [.val (.int (Nat.gcd a 0 : Nat)), .val (.int 0)]) := by
    intro a m hm
    obtain ⟨m, rfl⟩ : ∃ k, m = k + 1 := ⟨m - 1, by omega⟩
    unfold whileM
    rw [(gcd_turn (wf := wf) Φ a 0).1]
    simp
  have one : ∀ (a b m : Nat), 0 < b → whileM (evT Φ (.cmp .gt (.slot 1) (.cint 0))) (evSs Φ wf (.cons (.par 0 1 (.slot 1) (.bin .mod (.slot 0) (.slot 1))) .nil)) (m + 1) [.val (.int a), .val (.int b)] =
      whileM (evT Φ (.cmp .gt (.slot 1) (.cint 0))) (evSs Φ wf (.cons (.par 0 1 (.slot 1) (.bin .mod (.slot 0) (.slot 1))) .nil)) m [.val (.int b), .val (.int ((a % b : Nat) : Int))] := by
    intro a b m hb
    conv => lhs; unfold whileM
    rw [(gcd_turn (wf := wf) Φ a b).1, (gcd_turn (wf := wf) Φ a b).2 hb, decide_eq_true (by omega)]
  intro j
  induction j with
  | zero =>
    intro a b m hb hm
    have : b = 0 := by simpa using hb
    subst this
    exact stop a m (by omega)
  | succ j ih =>
    intro a b m hb hm
    by_cases h0 : b = 0
    · subst h0; exact stop a m (by omega)
    · have hb0 : 0 < b := Nat.pos_of_ne_zero h0
      obtain ⟨m, rfl⟩ : ∃ k, m = k + 2 := ⟨m - 2, by omega⟩
      rw [one a b (m + 1) hb0]
      have hr : a % b < b := Nat.mod_lt _ hb0
      have e1 : Nat.gcd a b = Nat.gcd b (a % b) := by rw [Nat.gcd_comm a b, Nat.gcd_rec b a, Nat.gcd_comm]
      by_cases h1 : a % b = 0
      · rw [h1, stop b (m + 1) (by omega), e1, h1]
      · have hp : 0 < a % b := Nat.pos_of_ne_zero h1
        rw [one b (a % b) m hp, ih (a % b) (b % (a % b)) m (by have := mod_half hr hp; rw [Nat.pow_succ] at hb; omega) (by omega), e1]
        congr 6
        rw [Nat.gcd_comm b (a % b), Nat.gcd_rec (a % b) b, Nat.gcd_comm]
theorem abs_nat (i : Int) : (if i < 0 then -i else i) = (i.natAbs : Int) := by split <;> omega
theorem run_common {f n : Nat} (ht : tab[f]? = some commonFd) (hwf : 19000 ≤ wf) (hn : 1 ≤ n) {a b : Int} (hb : Bi 9000 b) : run tab wf n f [.int a, .int b] = some (.int (Nat.gcd a.natAbs b.natAbs : Nat)) := by
  obtain ⟨n, rfl⟩ : ∃ k, n = k + 1 := ⟨n - 1, by omega⟩
  rw [run_eq ht]
  have := gcd_loop (wf := wf) (run tab wf n) 9000 a.natAbs b.natAbs wf hb (by omega)
  simp [bodyD, commonFd, start0, evS_while, primD, abs_nat, this]
end
end MP

/-! runs of fraction, minus, times, over, plus and of the law's own. -/
namespace MP
open PySem L2
@[simp] theorem prim_abs (i : Int) : primD .abs [.int i] = some (.int (i.natAbs : Int)) := by show some (D.int (if i < 0 then -i else i)) = _; rw [abs_nat]
@[simp] theorem prim_lenL (xs : List D) : primD .len [.lst xs] = some (.int (xs.length : Int)) := id rfl
@[simp] theorem prim_lenT (xs : List D) : primD .len [.tup xs] = some (.int (xs.length : Int)) := id rfl
@[simp] theorem prim_lenO (xs : List D) : primD .len [.own xs] = some (.int (xs.length : Int)) := id rfl
@[simp] theorem prim_int (i : Int) : primD .int [.int i] = some (.int i) := id rfl
/-! the defs, by the index of what they call -/
def fractionFd (c : Nat) : Fd := ⟨2, 3, (.cons (.ifS (.cmp .eq (.slot 1) (.cint 0)) (.cons .bad .nil) .nil) (.cons (.set 2 (.call c (.cons (.slot 0) (.cons (.slot 1) .nil)) [])) (.cons (.ifS (.cmp .lt (.slot 1) (.cint 0)) (.cons (.set 2 (.neg (.slot 2))) .nil) .nil) (.cons (.ret (.tup (.cons (.bin .fdiv (.slot 0) (.slot 2)) (.cons (.bin .fdiv (.slot 1) (.slot 2)) .nil)))) .nil))))⟩
def minusFd (c : Nat) : Fd := ⟨2, 2, (.cons (.ret (.call c (.cons (.bin .sub (.bin .mul (.idx (.slot 0) (.cint 0)) (.idx (.slot 1) (.cint 1))) (.bin .mul (.idx (.slot 1) (.cint 0)) (.idx (.slot 0) (.cint 1)))) (.cons (.bin .mul (.idx (.slot 0) (.cint 1)) (.idx (.slot 1) (.cint 1))) .nil)) [])) .nil)⟩
def plusFd (c : Nat) : Fd := ⟨2, 2, (.cons (.ret (.call c (.cons (.bin .add (.bin .mul (.idx (.slot 0) (.cint 0)) (.idx (.slot 1) (.cint 1))) (.bin .mul (.idx (.slot 1) (.cint 0)) (.idx (.slot 0) (.cint 1)))) (.cons (.bin .mul (.idx (.slot 0) (.cint 1)) (.idx (.slot 1) (.cint 1))) .nil)) [])) .nil)⟩
def timesFd (c : Nat) : Fd := ⟨2, 2, (.cons (.ret (.call c (.cons (.bin .mul (.idx (.slot 0) (.cint 0)) (.idx (.slot 1) (.cint 0))) (.cons (.bin .mul (.idx (.slot 0) (.cint 1)) (.idx (.slot 1) (.cint 1))) .nil)) [])) .nil)⟩
def overFd (c : Nat) : Fd := ⟨2, 2, (.cons (.ret (.call c (.cons (.bin .mul (.idx (.slot 0) (.cint 0)) (.idx (.slot 1) (.cint 1))) (.cons (.bin .mul (.idx (.slot 0) (.cint 1)) (.idx (.slot 1) (.cint 0))) .nil)) [])) .nil)⟩
def lawFractionFd : Fd := ⟨2, 5, (.cons (.set 2 (.prim .abs (.cons (.slot 0) .nil))) (.cons (.set 3 (.prim .abs (.cons (.slot 1) .nil))) (.cons (.forS [4] (.rng1 (.cint 10000)) (.cons (.ifS (.cmp .eq (.slot 3) (.cint 0)) (.cons .brk .nil) .nil) (.cons (.par 2 3 (.slot 3) (.bin .mod (.slot 2) (.slot 3))) .nil))) (.cons (.ifS (.cmp .lt (.slot 1) (.cint 0)) (.cons (.set 2 (.neg (.slot 2))) .nil) .nil) (.cons (.ret (.tup (.cons (.bin .fdiv (.slot 0) (.slot 2)) (.cons (.bin .fdiv (.slot 1) (.slot 2)) .nil)))) .nil)))))⟩
/-- the def at f hands back the quotient, for parts up to k bits -/
def Makes (tab : List Fd) (wf k m f : Nat) : Prop := ∀ n, m ≤ n → ∀ a b : Int, b ≠ 0 → Bi k b → run tab wf n f [.int a, .int b] = some (fr (Rat.divInt a b))
section
variable {tab : List Fd} {wf : Nat}
theorem gcd_bits {a b : Int} {k : Nat} (h0 : b ≠ 0) (hb : Bi k b) : (Nat.gcd a.natAbs b.natAbs) < 2 ^ k ∧ 0 < Nat.gcd a.natAbs b.natAbs :=
  ⟨Nat.lt_of_le_of_lt (Nat.le_of_dvd (by omega) (Nat.gcd_dvd_right ..)) hb, Nat.gcd_pos_of_pos_right _ (by omega)⟩
theorem signed_ok {a b : Int} (h0 : b ≠ 0) (hb : Bi 9000 b) :
    (if b < 0 then -(Nat.gcd a.natAbs b.natAbs : Int) else (Nat.gcd a.natAbs b.natAbs : Int)) ≠ 0 ∧
    (if b < 0 then -(Nat.gcd a.natAbs b.natAbs : Int) else (Nat.gcd a.natAbs b.natAbs : Int)).natAbs.log2 < 9000 := by
  have h := gcd_bits (a := a) h0 hb
  have e : (if b < 0 then -(Nat.gcd a.natAbs b.natAbs : Int) else (Nat.gcd a.natAbs b.natAbs : Int)).natAbs = Nat.gcd a.natAbs b.natAbs := by split <;> omega
  refine ⟨fun z => ?_, ?_⟩
  · rw [z] at e; simp at e; omega
  · rw [e]; exact Bi.log (i := (Nat.gcd a.natAbs b.natAbs : Int)) h.1 (by decide)
theorem makes_fraction {f c : Nat} (ht : tab[f]? = some (fractionFd c)) (hc : tab[c]? = some commonFd) (hwf : 19000 ≤ wf) : Makes tab wf 9000 2 f := by
  intro n hn a b h0 hb
  obtain ⟨n, rfl⟩ : ∃ k, n = k + 1 := ⟨n - 1, by omega⟩
  rw [run_eq ht]
  have h1 := run_common (a := a) hc hwf (n := n) (by omega) hb
  have h2 := signed_ok (a := a) h0 hb
  have h3 := frac_pair (n := a) h0
  by_cases hneg : b < 0
  · rw [if_pos hneg] at h2 h3
    simp [bodyD, fractionFd, start0, h0, h1, hneg, bin_fdiv h2.1 h2.2, fr, h3.1, h3.2, line]
  · rw [if_neg hneg] at h2 h3
    simp [bodyD, fractionFd, start0, h0, h1, hneg, bin_fdiv h2.1 h2.2, fr, h3.1, h3.2, line]
/-- the law's own loop -/
theorem gcd_for (Φ : Nat → List D → Option D) (x y : D) : ∀ (j a b : Nat) (ds : List D) (c : SV), b < 2 ^ j → 2 * j + 1 ≤ ds.length →
    ∃ c', forM (stepF Φ wf [4] (.cons (.ifS (.cmp .eq (.slot 3) (.cint 0)) (.cons .brk .nil) .nil) (.cons (.par 2 3 (.slot 3) (.bin .mod (.slot 2) (.slot 3))) .nil))) ds
      [.val x, .val y, .val (.int a), .val (.int b), c] = some (.nx [.val x, .val y, .val (.int (Nat.gcd a b : Nat)), .val (.int 0), c']) := by
  have stop : ∀ (a : Nat) (ds : List D) (c : SV), 1 ≤ ds.length →
    ∃ c', forM (stepF Φ wf [4] (.cons (.ifS (.cmp .eq (.slot 3) (.cint 0)) (.cons .brk .nil) .nil) (.cons (.par 2 3 (.slot 3) (.bin .mod (.slot 2) (.slot 3))) .nil))) ds
      [.val x, .val y, .val (.int a), .val (.int ((0 : Nat) : Int)), c] = some (.nx [.val x, .val y, .val (.int (Nat.gcd a 0 : Nat)), .val (.int 0), c']) := by
    intro a ds c h
    obtain ⟨d, ds, rfl⟩ : ∃ d es, ds = d :: es := by cases ds with | nil => simp at h | cons d es => exact ⟨d, es, rfl⟩
    exact ⟨.val d, by simp [forM_cons, stepF]⟩
  have one : ∀ (a b : Nat) (d : D) (ds : List D) (c : SV), 0 < b →
    forM (stepF Φ wf [4] (.cons (.ifS (.cmp .eq (.slot 3) (.cint 0)) (.cons .brk .nil) .nil) (.cons (.par 2 3 (.slot 3) (.bin .mod (.slot 2) (.slot 3))) .nil))) (d :: ds)
      [.val x, .val y, .val (.int a), .val (.int b), c] =
    forM (stepF Φ wf [4] (.cons (.ifS (.cmp .eq (.slot 3) (.cint 0)) (.cons .brk .nil) .nil) (.cons (.par 2 3 (.slot 3) (.bin .mod (.slot 2) (.slot 3))) .nil))) ds
      [.val x, .val y, .val (.int b), .val (.int ((a % b : Nat) : Int)), .val d] := by
    intro a b d ds c hb
    have hb' : ((b : Int) ≠ 0) := by omega
    have hb2 : b ≠ 0 := by omega
    have : stepF Φ wf [4] (.cons (.ifS (.cmp .eq (.slot 3) (.cint 0)) (.cons .brk .nil) .nil) (.cons (.par 2 3 (.slot 3) (.bin .mod (.slot 2) (.slot 3))) .nil)) d [.val x, .val y, .val (.int a), .val (.int b), c] =
        some (.nx [.val x, .val y, .val (.int b), .val (.int ((a % b : Nat) : Int)), .val d]) := by
      simp [stepF, bin_mod hb', fmod_nat, hb2]
    rw [forM_cons, this]
  intro j
  induction j with
  | zero =>
    intro a b ds c hb hm
    have : b = 0 := by simpa using hb
    subst this
    exact stop a ds c (by omega)
  | succ j ih =>
    intro a b ds c hb hm
    by_cases h0 : b = 0
    · subst h0; exact stop a ds c (by omega)
    · have hb0 : 0 < b := Nat.pos_of_ne_zero h0
      obtain ⟨d1, d2, ds, rfl⟩ : ∃ d1 d2 es, ds = d1 :: d2 :: es := by
        cases ds with
        | nil => simp at hm
        | cons d1 es => cases es with
          | nil => simp at hm
          | cons d2 es => exact ⟨d1, d2, es, rfl⟩
      rw [one a b d1 _ c hb0]
      have hr : a % b < b := Nat.mod_lt _ hb0
      have e1 : Nat.gcd a b = Nat.gcd b (a % b) := by rw [Nat.gcd_comm a b, Nat.gcd_rec b a, Nat.gcd_comm]
      by_cases h1 : a % b = 0
      · rw [h1, e1, h1]; exact stop b _ _ (by simp)
      · have hp : 0 < a % b := Nat.pos_of_ne_zero h1
        rw [one b (a % b) d2 _ _ hp, e1, Nat.gcd_comm b (a % b), Nat.gcd_rec (a % b) b, Nat.gcd_comm]
        exact ih (a % b) (b % (a % b)) ds _ (by have := mod_half hr hp; rw [Nat.pow_succ] at hb; omega) (by simp at hm; omega)
theorem len_rng (lo hi : Int) : (rng lo hi).length = (hi - lo).toNat := by simp [rng]
theorem makes_lawFraction {f : Nat} (ht : tab[f]? = some lawFractionFd) : Makes tab wf 4900 1 f := by
  intro n hn a b h0 hb
  obtain ⟨n, rfl⟩ : ∃ k, n = k + 1 := ⟨n - 1, by omega⟩
  rw [run_eq ht]
  obtain ⟨c', h1⟩ := gcd_for (wf := wf) (run tab wf n) (.int a) (.int b) 4900 a.natAbs b.natAbs (rng 0 10000) .non hb (by rw [len_rng]; decide)
  have h2 := signed_ok (a := a) h0 (hb.mono (by decide))
  have h3 := frac_pair (n := a) h0
  have hk : okRng 10000 = true := by decide
  by_cases hneg : b < 0
  · rw [if_pos hneg] at h2 h3
    simp [bodyD, lawFractionFd, start0, evS_forF, hk, h0, h1, hneg, bin_fdiv h2.1 h2.2, fr, h3.1, h3.2, line]
  · rw [if_neg hneg] at h2 h3
    simp [bodyD, lawFractionFd, start0, evS_forF, hk, h0, h1, hneg, bin_fdiv h2.1 h2.2, fr, h3.1, h3.2, line]
/-- what two fractions make -/
def Op2 (tab : List Fd) (wf k m f : Nat) (op : Rat → Rat → Rat) : Prop := ∀ n, m ≤ n → ∀ a b : Rat, Sz k a → Sz k b → run tab wf n f [fr a, fr b] = some (fr (op a b))
theorem op_minus {f c k m j : Nat} (hc : Makes tab wf k m c) (ht : tab[f]? = some (minusFd c)) (hj : j + j ≤ k) (hk : k ≤ 9000) : Op2 tab wf j (m + 1) f (· - ·) := by
  intro n hn a b ha hb
  obtain ⟨n, rfl⟩ : ∃ k, n = k + 1 := ⟨n - 1, by omega⟩
  rw [run_eq ht]
  have h1 := hc n (by omega) (a.num * b.den - b.num * a.den) (a.den * b.den) (Int.mul_ne_zero (den_ne a) (den_ne b)) ((ha.d'.mul hb.d').mono hj)
  rw [sub_divInt] at h1
  have m1 := mulOk_of ha.n hb.d' (by omega)
  have m2 := mulOk_of hb.n ha.d' (by omega)
  have m3 := mulOk_of ha.d' hb.d' (by omega)
  simp only [fr] at h1
  simp [bodyD, minusFd, start0, fr, bin_mul m1, bin_mul m2, bin_mul m3, h1]
theorem op_plus {f c k m j : Nat} (hc : Makes tab wf k m c) (ht : tab[f]? = some (plusFd c)) (hj : j + j ≤ k) (hk : k ≤ 9000) : Op2 tab wf j (m + 1) f (· + ·) := by
  intro n hn a b ha hb
  obtain ⟨n, rfl⟩ : ∃ k, n = k + 1 := ⟨n - 1, by omega⟩
  rw [run_eq ht]
  have h1 := hc n (by omega) (a.num * b.den + b.num * a.den) (a.den * b.den) (Int.mul_ne_zero (den_ne a) (den_ne b)) ((ha.d'.mul hb.d').mono hj)
  rw [add_divInt] at h1
  have m1 := mulOk_of ha.n hb.d' (by omega)
  have m2 := mulOk_of hb.n ha.d' (by omega)
  have m3 := mulOk_of ha.d' hb.d' (by omega)
  simp only [fr] at h1
  simp [bodyD, plusFd, start0, fr, bin_mul m1, bin_mul m2, bin_mul m3, h1]
theorem op_times {f c k m j : Nat} (hc : Makes tab wf k m c) (ht : tab[f]? = some (timesFd c)) (hj : j + j ≤ k) (hk : k ≤ 9000) : Op2 tab wf j (m + 1) f (· * ·) := by
  intro n hn a b ha hb
  obtain ⟨n, rfl⟩ : ∃ k, n = k + 1 := ⟨n - 1, by omega⟩
  rw [run_eq ht]
  have h1 := hc n (by omega) (a.num * b.num) (a.den * b.den) (Int.mul_ne_zero (den_ne a) (den_ne b)) ((ha.d'.mul hb.d').mono hj)
  rw [mul_divInt] at h1
  have m1 := mulOk_of ha.n hb.n (by omega)
  have m3 := mulOk_of ha.d' hb.d' (by omega)
  simp only [fr] at h1
  simp [bodyD, timesFd, start0, fr, bin_mul m1, bin_mul m3, h1]
theorem op_over {f c k m j : Nat} (hc : Makes tab wf k m c) (ht : tab[f]? = some (overFd c)) (hj : j + j ≤ k) (hk : k ≤ 9000) :
    ∀ n, m + 1 ≤ n → ∀ a b : Rat, Sz j a → Sz j b → b ≠ 0 → run tab wf n f [fr a, fr b] = some (fr (a / b)) := by
  intro n hn a b ha hb hz
  obtain ⟨n, rfl⟩ : ∃ k, n = k + 1 := ⟨n - 1, by omega⟩
  rw [run_eq ht]
  have h1 := hc n (by omega) (a.num * b.den) (a.den * b.num) (Int.mul_ne_zero (den_ne a) (num_ne hz)) ((ha.d'.mul hb.n).mono hj)
  rw [div_divInt] at h1
  have m1 := mulOk_of ha.n hb.d' (by omega)
  have m3 := mulOk_of ha.d' hb.n (by omega)
  simp only [fr] at h1
  simp [bodyD, overFd, start0, fr, bin_mul m1, bin_mul m3, h1]
end
end MP

/-! rows of equations: runs of taken_from, leading, divided, reduced, joined, settle, worth_of. -/
namespace MP
open PySem L2
@[simp] theorem pure_fr (q : Rat) : pure? (fr q) = some (fr q) := id rfl
@[simp] theorem ix_fr0 (q : Rat) : ixD (fr q) (.int 0) = some (.int q.num) := id (ix_t0 ..)
@[simp] theorem ix_fr1 (q : Rat) : ixD (fr q) (.int 1) = some (.int q.den) := id (ix_t1 ..)
/-- the item at k, 0 past the end -/
def gD (c : List Rat) (k : Nat) : Rat := c.getD k 0
@[simp] theorem gD_zero (q : Rat) (qs : List Rat) : gD (q :: qs) 0 = q := rfl
@[simp] theorem gD_succ (q : Rat) (qs : List Rat) (k : Nat) : gD (q :: qs) (k + 1) = gD qs k := rfl
@[simp] theorem gD_nil (k : Nat) : gD [] k = 0 := rfl
theorem gD_lt {c : List Rat} {k : Nat} (h : k < c.length) : gD c k = c[k] := by
  unfold gD
  rw [List.getD_eq_getElem?_getD, List.getElem?_eq_getElem h]; rfl
theorem getD_some {c : List Rat} {k : Nat} (h : k < c.length) : c[k]? = some (gD c k) := by
  rw [gD_lt h, List.getElem?_eq_getElem h]
theorem ix_frs {c : List Rat} {k : Nat} (h : k < c.length) : ixD (.lst (c.map fr)) (.int (k : Int)) = some (fr (gD c k)) :=
  ix_lst (by rw [List.getElem?_map, getD_some h]; rfl)
/-! ### comprehensions -/
theorem compM_map {f : D → Option (Option D)} {g : D → D} : ∀ {ds : List D}, (∀ d ∈ ds, f d = some (some (g d))) → compM f ds = some (ds.map g) := by
  intro ds
  induction ds with
  | nil => intro _; rfl
  | cons d ds ih =>
    intro h
    have h1 := h d (List.mem_cons_self ..)
    have h2 := ih fun e he => h e (List.mem_cons_of_mem _ he)
    show (match f d with | none => none | some o => match compM f ds with | none => none | some es => some (match o with | some e => e :: es | none => es)) = _
    rw [h1, h2]; rfl
theorem compM_filter {f : D → Option (Option D)} {g : D → D} {p : D → Bool} : ∀ {ds : List D}, (∀ d ∈ ds, f d = some (if p d then some (g d) else none)) → compM f ds = some ((ds.filter p).map g) := by
  intro ds
  induction ds with
  | nil => intro _; rfl
  | cons d ds ih =>
    intro h
    have h1 := h d (List.mem_cons_self ..)
    have h2 := ih fun e he => h e (List.mem_cons_of_mem _ he)
    show (match f d with | none => none | some o => match compM f ds with | none => none | some es => some (match o with | some e => e :: es | none => es)) = _
    rw [h1, h2]
    cases hp : p d <;> simp [hp]
theorem rng_nat (n : Nat) : rng 0 (n : Int) = (List.range n).map fun (k : Nat) => D.int (k : Int) := by
  simp [rng]
theorem okRng_nat {n : Nat} (h : n ≤ line) : okRng (n : Int) = true := by
  unfold okRng line at *
  simp only [Bool.and_eq_true, decide_eq_true_eq]
  omega
section
variable {Φ : Nat → List D → Option D} {wf : Nat} {ρ : Rho}
theorem comp_range {elt a : E} {j n : Nat} {g : Nat → D} (ha : evE Φ a ρ = some (.int (n : Int))) (hn : n ≤ line)
    (h : ∀ k, k < n → (evE Φ elt (ρ.set j (.val (.int (k : Int))))).bind pure? = some (g k)) :
    evE Φ (.comp elt [j] (.rng1 a) .nil [j]) ρ = some (.lst ((List.range n).map g)) := by
  rw [ev_comp]
  simp only [evIt_rng1, ha, okRng_nat hn, if_true, rng_nat]
  have : compM (stepC Φ elt [j] .nil [j] ρ) ((List.range n).map fun (k : Nat) => D.int (k : Int)) = some ((List.range n).map g) := by
    rw [compM_map (g := fun d => match d with | .int i => g i.toNat | d => d), List.map_map]
    · rfl
    · intro d hd
      obtain ⟨k, hk, rfl⟩ := List.mem_map.mp hd
      have hk := List.mem_range.mp hk
      simp only [stepC, wipeR_one, setTg_name, List.set_set, evTs_nil, h k hk]
      rfl
  rw [this]
  simp [hn]
theorem comp_range_if {elt a : E} {t : T} {j n : Nat} {g : Nat → D} {p : Nat → Bool} (ha : evE Φ a ρ = some (.int (n : Int))) (hn : n ≤ line)
    (ht : ∀ k, k < n → evT Φ t (ρ.set j (.val (.int (k : Int)))) = some (p k))
    (h : ∀ k, k < n → p k = true → (evE Φ elt (ρ.set j (.val (.int (k : Int))))).bind pure? = some (g k)) :
    evE Φ (.comp elt [j] (.rng1 a) (.cons t .nil) [j]) ρ = some (.lst (((List.range n).filter p).map g)) := by
  rw [ev_comp]
  simp only [evIt_rng1, ha, okRng_nat hn, if_true, rng_nat]
  have : compM (stepC Φ elt [j] (.cons t .nil) [j] ρ) ((List.range n).map fun (k : Nat) => D.int (k : Int)) = some (((List.range n).filter p).map g) := by
    rw [compM_filter (g := fun d => match d with | .int i => g i.toNat | d => d) (p := fun d => match d with | .int i => p i.toNat | d => false), List.filter_map, List.map_map]
    · rfl
    · intro d hd
      obtain ⟨k, hk, rfl⟩ := List.mem_map.mp hd
      have hk := List.mem_range.mp hk
      simp only [stepC, wipeR_one, setTg_name, List.set_set, evTs_cons, ht k hk, Int.toNat_natCast]
      cases hp : p k with
      | false => rfl
      | true => simp [h k hk hp]
  rw [this]
  have : ((List.range n).filter p).length ≤ n := by simpa using List.length_filter_le p (List.range n)
  simp only [List.length_map]
  rw [if_pos (decide_eq_true (by omega))]
theorem comp_seq {elt e : E} {j : Nat} {d : D} {ds : List D} {g : D → D} (ha : evE Φ e ρ = some d) (hd : lst? d = some ds) (hn : ds.length ≤ line)
    (h : ∀ d ∈ ds, (evE Φ elt (ρ.set j (.val d))).bind pure? = some (g d)) :
    evE Φ (.comp elt [j] (.seq e) .nil [j]) ρ = some (.lst (ds.map g)) := by
  rw [ev_comp]
  simp only [evIt_seq, ha, hd]
  have : compM (stepC Φ elt [j] .nil [j] ρ) ds = some (ds.map g) := by
    refine compM_map fun d hd => ?_
    simp only [stepC, wipeR_one, setTg_name, List.set_set, evTs_nil, h d hd]
  rw [this]
  simp [hn]
end
theorem forM_append (f : D → Rho → Option Fl) : ∀ (xs ys : List D) (ρ ρ' : Rho), forM f xs ρ = some (.nx ρ') → (∀ d ρ, f d ρ ≠ some (.bk ρ)) → True := fun _ _ _ _ _ _ => trivial
/-! ### rows -/
structure Row where
  c : List Rat
  b : Rat
  p : List Rat
def frs (c : List Rat) : D := .lst (c.map fr)
@[simp] theorem pure_frs (c : List Rat) : pure? (frs c) = some (frs c) := id rfl
@[simp] theorem ix_frs' {c : List Rat} {k : Nat} (h : k < c.length) : ixD (frs c) (.int (k : Int)) = some (fr (gD c k)) := ix_frs h
@[simp] theorem len_frs (c : List Rat) : primD .len [frs c] = some (.int (c.length : Int)) := by show some (D.int ((c.map fr).length : Int)) = _; rw [List.length_map]
def rowD (r : Row) : D := .tup [frs r.c, fr r.b, frs r.p]
@[simp] theorem pure_rowD (r : Row) : pure? (rowD r) = some (rowD r) := id rfl
@[simp] theorem ix_rowD0 (r : Row) : ixD (rowD r) (.int 0) = some (frs r.c) := id (ix_t0 ..)
@[simp] theorem ix_rowD1 (r : Row) : ixD (rowD r) (.int 1) = some (fr r.b) := id (ix_t1 ..)
@[simp] theorem ix_rowD2 (r : Row) : ixD (rowD r) (.int 2) = some (frs r.p) := id (ix_t2 ..)
def subV (f : Rat) (x y : List Rat) : List Rat := (List.range x.length).map fun k => gD x k - f * gD y k
def taken (r : Row) (f : Rat) (o : Row) : Row := ⟨subV f r.c o.c, r.b - f * o.b, subV f r.p o.p⟩
def divd (r : Row) (q : Rat) : Row := ⟨r.c.map (· / q), r.b / q, r.p.map (· / q)⟩
def leadFrom : Nat → List Rat → Option Nat
  | _, [] => none
  | i, q :: qs => if q ≠ 0 then some i else leadFrom (i + 1) qs
def lead (c : List Rat) : Option Nat := leadFrom 0 c
def optD : Option Nat → D
  | none => .non
  | some l => .int (l : Int)
def redR : List Row → Row → Row
  | [], r => r
  | o :: os, r => redR os (taken r (gD r.c ((lead o.c).getD 0)) o)
def joinR (kept : List Row) (r : Row) : List Row :=
  let l := (lead r.c).getD 0
  let r' := divd r (gD r.c l)
  kept.map (fun o => taken o (gD o.c l) r') ++ [r']
/-- sizes of a row: w coefficients, m parts, each up to k bits -/
structure RSz (w m k : Nat) (r : Row) : Prop where
  lc : r.c.length = w
  lp : r.p.length = m
  c : ∀ j, j < w → Sz k (gD r.c j)
  b : Sz k r.b
  p : ∀ j, j < m → Sz k (gD r.p j)
theorem leadFrom_some : ∀ {qs : List Rat} {i l : Nat}, leadFrom i qs = some l → i ≤ l ∧ l - i < qs.length ∧ gD qs (l - i) ≠ 0 ∧ ∀ k, k < l - i → gD qs k = 0 := by
  intro qs
  induction qs with
  | nil => intro i l h; cases h
  | cons q qs ih =>
    intro i l h
    unfold leadFrom at h
    by_cases hq : q ≠ 0
    · rw [if_pos hq] at h
      cases h
      exact ⟨Nat.le_refl _, by simp, by simpa using hq, fun k hk => by omega⟩
    · rw [if_neg hq] at h
      obtain ⟨h1, h2, h3, h4⟩ := ih h
      obtain ⟨m, rfl⟩ : ∃ m, l = i + 1 + m := ⟨l - (i + 1), by omega⟩
      have e1 : i + 1 + m - (i + 1) = m := by omega
      have e2 : i + 1 + m - i = m + 1 := by omega
      rw [e1] at h2 h3 h4
      rw [e2]
      refine ⟨by omega, by simp; omega, by simpa using h3, fun k hk => ?_⟩
      cases k with
      | zero => simpa using hq
      | succ k => simpa using h4 k (by omega)
theorem leadFrom_none : ∀ {qs : List Rat} {i : Nat}, leadFrom i qs = none → ∀ k, gD qs k = 0 := by
  intro qs
  induction qs with
  | nil => intro i h k; simp
  | cons q qs ih =>
    intro i h k
    unfold leadFrom at h
    by_cases hq : q ≠ 0
    · rw [if_pos hq] at h; cases h
    · rw [if_neg hq] at h
      cases k with
      | zero => simpa using hq
      | succ k => simpa using ih h k
theorem lead_some {c : List Rat} {l : Nat} (h : lead c = some l) : l < c.length ∧ gD c l ≠ 0 ∧ ∀ k, k < l → gD c k = 0 := by
  have := leadFrom_some h
  simpa using this
theorem lead_none {c : List Rat} (h : lead c = none) : ∀ k, gD c k = 0 := leadFrom_none h
/-! ### the defs -/
def takenFd (mi ti : Nat) : Fd := ⟨3, 6, (.cons (.set 3 (.comp (.call mi (.cons (.idx (.idx (.slot 0) (.cint 0)) (.slot 5)) (.cons (.call ti (.cons (.slot 1) (.cons (.idx (.idx (.slot 2) (.cint 0)) (.slot 5)) .nil)) []) .nil)) []) [5] (.rng1 (.prim .len (.cons (.idx (.slot 0) (.cint 0)) .nil))) .nil [5])) (.cons (.set 4 (.comp (.call mi (.cons (.idx (.idx (.slot 0) (.cint 2)) (.slot 5)) (.cons (.call ti (.cons (.slot 1) (.cons (.idx (.idx (.slot 2) (.cint 2)) (.slot 5)) .nil)) []) .nil)) []) [5] (.rng1 (.prim .len (.cons (.idx (.slot 0) (.cint 2)) .nil))) .nil [5])) (.cons (.ret (.tup (.cons (.slot 3) (.cons (.call mi (.cons (.idx (.slot 0) (.cint 1)) (.cons (.call ti (.cons (.slot 1) (.cons (.idx (.slot 2) (.cint 1)) .nil)) []) .nil)) []) (.cons (.slot 4) .nil))))) .nil)))⟩
def leadingFd : Fd := ⟨1, 2, (.cons (.forS [1] (.rng1 (.prim .len (.cons (.idx (.slot 0) (.cint 0)) .nil))) (.cons (.ifS (.cmp .ne (.idx (.idx (.idx (.slot 0) (.cint 0)) (.slot 1)) (.cint 0)) (.cint 0)) (.cons (.ret (.slot 1)) .nil) .nil) .nil)) (.cons (.ret .cnon) .nil))⟩
def dividedFd (oi : Nat) : Fd := ⟨2, 3, (.cons (.ret (.tup (.cons (.comp (.call oi (.cons (.slot 2) (.cons (.slot 1) .nil)) []) [2] (.seq (.idx (.slot 0) (.cint 0))) .nil [2]) (.cons (.call oi (.cons (.idx (.slot 0) (.cint 1)) (.cons (.slot 1) .nil)) []) (.cons (.comp (.call oi (.cons (.slot 2) (.cons (.slot 1) .nil)) []) [2] (.seq (.idx (.slot 0) (.cint 2))) .nil [2]) .nil))))) .nil)⟩
def reducedFd (ta le : Nat) : Fd := ⟨2, 3, (.cons (.forS [2] (.seq (.slot 0)) (.cons (.set 1 (.call ta (.cons (.slot 1) (.cons (.idx (.idx (.slot 1) (.cint 0)) (.call le (.cons (.slot 2) .nil) [])) (.cons (.slot 2) .nil))) [])) .nil)) (.cons (.ret (.slot 1)) .nil))⟩
def joinedFd (ta le di : Nat) : Fd := ⟨2, 4, (.cons (.set 2 (.call le (.cons (.slot 1) .nil) [])) (.cons (.set 1 (.call di (.cons (.slot 1) (.cons (.idx (.idx (.slot 1) (.cint 0)) (.slot 2)) .nil)) [])) (.cons (.ret (.bin .add (.comp (.call ta (.cons (.slot 3) (.cons (.idx (.idx (.slot 3) (.cint 0)) (.slot 2)) (.cons (.slot 1) .nil))) []) [3] (.seq (.slot 0)) .nil [3]) (.lst (.cons (.slot 1) .nil)))) .nil)))⟩
section
variable {tab : List Fd} {wf : Nat}
theorem run_rt {fd : Fd} {f n : Nat} {ds : List D} (ρ : Rho) {d : D} (h : tab[f]? = some fd) (hl : ds.length = fd.np) (hρ : start0 fd ds = ρ) (hb : evSs (run tab wf n) wf fd.body ρ = some (.rt d)) : run tab wf (n + 1) f ds = some d := by
  rw [run_eq h]
  subst hρ
  simp only [bodyD, hl, hb, decide_true, if_true]
theorem run_nx {fd : Fd} {f n : Nat} {ds : List D} (ρ : Rho) {ρ' : Rho} (h : tab[f]? = some fd) (hl : ds.length = fd.np) (hρ : start0 fd ds = ρ) (hb : evSs (run tab wf n) wf fd.body ρ = some (.nx ρ')) : run tab wf (n + 1) f ds = some .non := by
  rw [run_eq h]
  subst hρ
  simp only [bodyD, hl, hb, decide_true, if_true]
theorem set_sub {f : Rat} {x y : List Rat} (hy : y.length = x.length) {mi ti n : Nat} (hm : Op2 tab wf 2400 n mi (· - ·)) (ht : Op2 tab wf 2400 n ti (· * ·))
    {k : Nat} (hk : k < x.length) (hx : Sz 1200 (gD x k)) (hyk : Sz 1200 (gD y k)) (hf : Sz 1200 f) {N : Nat} (hN : n ≤ N) :
    run tab wf N ti [fr f, fr (gD y k)] = some (fr (f * gD y k)) ∧ run tab wf N mi [fr (gD x k), fr (f * gD y k)] = some (fr (gD x k - f * gD y k)) :=
  ⟨ht N hN _ _ (hf.mono (by decide)) (hyk.mono (by decide)), hm N hN _ _ (hx.mono (by decide)) (hf.mul hyk)⟩
theorem run_taken {t mi ti n w m : Nat} (ht : tab[t]? = some (takenFd mi ti)) (hmi : Op2 tab wf 2400 n mi (· - ·)) (hti : Op2 tab wf 2400 n ti (· * ·))
    {r o : Row} {f : Rat} (hr : RSz w m 1200 r) (ho : RSz w m 1200 o) (hf : Sz 1200 f) (hw : w ≤ line) (hm : m ≤ line) {N : Nat} (hN : n + 1 ≤ N) :
    run tab wf N t [rowD r, fr f, rowD o] = some (rowD (taken r f o)) := by
  obtain ⟨N, rfl⟩ : ∃ k, N = k + 1 := ⟨N - 1, by omega⟩
  have h1 : evE (run tab wf N) (.comp (.call mi (.cons (.idx (.idx (.slot 0) (.cint 0)) (.slot 5)) (.cons (.call ti (.cons (.slot 1) (.cons (.idx (.idx (.slot 2) (.cint 0)) (.slot 5)) .nil)) []) .nil)) []) [5] (.rng1 (.prim .len (.cons (.idx (.slot 0) (.cint 0)) .nil))) .nil [5]) [.val (rowD r), .val (fr f), .val (rowD o), .non, .non, .non]
      = some (frs (subV f r.c o.c)) := by
    rw [comp_range (n := r.c.length) (g := fun k => fr (gD r.c k - f * gD o.c k))]
    · simp [frs, subV]
    · simp
    · rw [hr.lc]; exact hw
    · intro k hk
      have hk' : k < w := by rw [← hr.lc]; exact hk
      have hk2 : k < o.c.length := by rw [ho.lc]; exact hk'
      have := set_sub (N := N) (by rw [ho.lc, hr.lc]) hmi hti hk (hr.c k hk') (ho.c k hk') hf (by omega)
      simp [ix_frs' hk, ix_frs' hk2, this.1, this.2]
  have h2 : evE (run tab wf N) (.comp (.call mi (.cons (.idx (.idx (.slot 0) (.cint 2)) (.slot 5)) (.cons (.call ti (.cons (.slot 1) (.cons (.idx (.idx (.slot 2) (.cint 2)) (.slot 5)) .nil)) []) .nil)) []) [5] (.rng1 (.prim .len (.cons (.idx (.slot 0) (.cint 2)) .nil))) .nil [5]) [.val (rowD r), .val (fr f), .val (rowD o), .val (frs (subV f r.c o.c)), .non, .non]
      = some (frs (subV f r.p o.p)) := by
    rw [comp_range (n := r.p.length) (g := fun k => fr (gD r.p k - f * gD o.p k))]
    · simp [frs, subV]
    · simp
    · rw [hr.lp]; exact hm
    · intro k hk
      have hk' : k < m := by rw [← hr.lp]; exact hk
      have hk2 : k < o.p.length := by rw [ho.lp]; exact hk'
      have := set_sub (N := N) (by rw [ho.lp, hr.lp]) hmi hti hk (hr.p k hk') (ho.p k hk') hf (by omega)
      simp [ix_frs' hk, ix_frs' hk2, this.1, this.2]
  have h3 := hti N (by omega) f o.b (hf.mono (by decide)) (ho.b.mono (by decide))
  have h4 := hmi N (by omega) r.b (f * o.b) (hr.b.mono (by decide)) (hf.mul ho.b)
  have h5 : (3 : Nat) ≤ line := by decide
  refine run_rt [.val (rowD r), .val (fr f), .val (rowD o), .non, .non, .non] ht rfl rfl ?_
  show _ = some (Fl.rt (D.tup [frs (subV f r.c o.c), fr (r.b - f * o.b), frs (subV f r.p o.p)]))
  simp [takenFd, h1, h2, h3, h4, h5]
theorem lead_loop {Φ : Nat → List D → Option D} {r : Row} : ∀ (suf : List Rat) (i : Nat) (v : SV), r.c.drop i = suf →
    (∀ l, leadFrom i suf = some l → forM (stepF Φ wf [1] (.cons (.ifS (.cmp .ne (.idx (.idx (.idx (.slot 0) (.cint 0)) (.slot 1)) (.cint 0)) (.cint 0)) (.cons (.ret (.slot 1)) .nil) .nil) .nil)) ((List.range' i suf.length).map fun (k : Nat) => D.int (k : Int)) [.val (rowD r), v] = some (.rt (.int (l : Int)))) ∧
    (leadFrom i suf = none → ∃ v', forM (stepF Φ wf [1] (.cons (.ifS (.cmp .ne (.idx (.idx (.idx (.slot 0) (.cint 0)) (.slot 1)) (.cint 0)) (.cint 0)) (.cons (.ret (.slot 1)) .nil) .nil) .nil)) ((List.range' i suf.length).map fun (k : Nat) => D.int (k : Int)) [.val (rowD r), v] = some (.nx [.val (rowD r), v'])) := by
  intro suf
  induction suf with
  | nil => intro i v h; exact ⟨fun l hl => by simp [leadFrom] at hl, fun _ => ⟨v, rfl⟩⟩
  | cons q qs ih =>
    intro i v h
    have hi : i < r.c.length := by
      have := congrArg List.length h
      simp at this; omega
    have hq : gD r.c i = q := by
      unfold gD; rw [List.getD_eq_getElem?_getD, ← List.head?_drop, h]; rfl
    have hd : r.c.drop (i + 1) = qs := by
      rw [← List.tail_drop, h]; rfl
    have hs : stepF Φ wf [1] (.cons (.ifS (.cmp .ne (.idx (.idx (.idx (.slot 0) (.cint 0)) (.slot 1)) (.cint 0)) (.cint 0)) (.cons (.ret (.slot 1)) .nil) .nil) .nil) (.int (i : Int)) [.val (rowD r), v] =
        some (if q ≠ 0 then .rt (.int (i : Int)) else .nx [.val (rowD r), .val (.int (i : Int))]) := by
      by_cases h0 : q = 0
      · simp [stepF, ix_frs' hi, hq, h0]
      · simp [stepF, ix_frs' hi, hq, h0, Rat.num_eq_zero]
    have hl : (List.range' i (q :: qs).length).map (fun (k : Nat) => D.int (k : Int)) = .int (i : Int) :: (List.range' (i + 1) qs.length).map fun (k : Nat) => D.int (k : Int) := rfl
    rw [hl, forM_cons, hs]
    by_cases h0 : q = 0
    · have e : leadFrom i (q :: qs) = leadFrom (i + 1) qs := by unfold leadFrom; rw [if_neg (by simpa using h0)]; cases qs <;> rfl
      rw [e, if_neg (by simpa using h0)]
      exact ih (i + 1) _ hd
    · have e : leadFrom i (q :: qs) = some i := by unfold leadFrom; rw [if_pos h0]
      rw [e, if_pos h0]
      exact ⟨fun l hl => by cases hl; rfl, fun h => by cases h⟩
theorem run_leading {t w m k N : Nat} (ht : tab[t]? = some leadingFd) {r : Row} (hr : RSz w m k r) (hw : w ≤ line) (hN : 1 ≤ N) :
    run tab wf N t [rowD r] = some (optD (lead r.c)) := by
  obtain ⟨N, rfl⟩ : ∃ k, N = k + 1 := ⟨N - 1, by omega⟩
  have h := lead_loop (wf := wf) (Φ := run tab wf N) (r := r) r.c 0 .non rfl
  have hk := okRng_nat (n := r.c.length) (by rw [hr.lc]; exact hw)
  have e : rng 0 (r.c.length : Int) = (List.range' 0 r.c.length).map fun (k : Nat) => D.int (k : Int) := by rw [rng_nat, List.range_eq_range']
  cases hl : lead r.c with
  | none =>
    obtain ⟨v', h'⟩ := h.2 hl
    refine run_rt [.val (rowD r), .non] ht rfl rfl ?_
    simp [leadingFd, evS_forF, hk, e, h', optD]
  | some l =>
    have h' := h.1 l hl
    refine run_rt [.val (rowD r), .non] ht rfl rfl ?_
    simp [leadingFd, evS_forF, hk, e, h', optD]
theorem run_divided {t oi n w m : Nat} (ht : tab[t]? = some (dividedFd oi)) (ho : ∀ N, n ≤ N → ∀ a b : Rat, Sz 2400 a → Sz 2400 b → b ≠ 0 → run tab wf N oi [fr a, fr b] = some (fr (a / b)))
    {r : Row} {q : Rat} (hr : RSz w m 1200 r) (hq : Sz 1200 q) (hz : q ≠ 0) (hw : w ≤ line) (hm : m ≤ line) {N : Nat} (hN : n + 1 ≤ N) :
    run tab wf N t [rowD r, fr q] = some (rowD (divd r q)) := by
  obtain ⟨N, rfl⟩ : ∃ k, N = k + 1 := ⟨N - 1, by omega⟩
  have key : ∀ (c : List Rat) (e : E), evE (run tab wf N) e [.val (rowD r), .val (fr q), .non] = some (frs c) → c.length ≤ line → (∀ x ∈ c, Sz 1200 x) →
      evE (run tab wf N) (.comp (.call oi (.cons (.slot 2) (.cons (.slot 1) .nil)) []) [2] (.seq e) .nil [2]) [.val (rowD r), .val (fr q), .non] = some (frs (c.map (· / q))) := by
    intro c e he hc hs
    have : evE (run tab wf N) (.comp (.call oi (.cons (.slot 2) (.cons (.slot 1) .nil)) []) [2] (.seq e) .nil [2]) [.val (rowD r), .val (fr q), .non] = some (.lst ((c.map fr).map fun d => match d with | .tup [.int a, .int b] => fr (mkRat a b.toNat / q) | d => d)) := by
      refine comp_seq he rfl (by simpa using hc) fun d hd => ?_
      obtain ⟨x, hx, rfl⟩ := List.mem_map.mp hd
      have h1 := ho N (by omega) x q ((hs x hx).mono (by decide)) (hq.mono (by decide)) hz
      have h2 : mkRat x.num ((x.den : Int)).toNat = x := by rw [Int.toNat_natCast, Rat.mkRat_self]
      simp [h1]
      show fr (x / q) = fr (mkRat x.num ((x.den : Int)).toNat / q)
      rw [h2]
    rw [this, List.map_map]
    simp only [frs, List.map_map]
    congr 2
    refine List.map_congr_left fun x hx => ?_
    show fr (mkRat x.num ((x.den : Int)).toNat / q) = fr (x / q)
    rw [Int.toNat_natCast, Rat.mkRat_self]
  have mem : ∀ {c : List Rat} {w : Nat}, c.length = w → (∀ j, j < w → Sz 1200 (gD c j)) → ∀ x ∈ c, Sz 1200 x := by
    intro c w hl hs x hx
    obtain ⟨j, hj, rfl⟩ := List.getElem_of_mem hx
    have := hs j (by omega)
    rwa [gD_lt hj] at this
  have h1 := key r.c (.idx (.slot 0) (.cint 0)) (by simp) (by rw [hr.lc]; exact hw) (mem hr.lc hr.c)
  have h2 := key r.p (.idx (.slot 0) (.cint 2)) (by simp) (by rw [hr.lp]; exact hm) (mem hr.lp hr.p)
  have h3 := ho N (by omega) r.b q (hr.b.mono (by decide)) (hq.mono (by decide)) hz
  have h5 : (3 : Nat) ≤ line := by decide
  refine run_rt [.val (rowD r), .val (fr q), .non] ht rfl rfl ?_
  show _ = some (Fl.rt (D.tup [frs (r.c.map (· / q)), fr (r.b / q), frs (r.p.map (· / q))]))
  simp [dividedFd, h1, h2, h3, h5]
/-- what reduced needs on its way -/
def OkRed (w m : Nat) : List Row → Row → Prop
  | [], _ => True
  | o :: os, r => RSz w m 1200 r ∧ RSz w m 1200 o ∧ (∃ l, lead o.c = some l) ∧ OkRed w m os (taken r (gD r.c ((lead o.c).getD 0)) o)
theorem run_reduced {t ta le n w m : Nat} (ht : tab[t]? = some (reducedFd ta le))
    (hta : ∀ N, n ≤ N → ∀ (r o : Row) (f : Rat), RSz w m 1200 r → RSz w m 1200 o → Sz 1200 f → run tab wf N ta [rowD r, fr f, rowD o] = some (rowD (taken r f o)))
    (hle : ∀ N, n ≤ N → ∀ (r : Row), RSz w m 1200 r → run tab wf N le [rowD r] = some (optD (lead r.c))) {kept : List Row} {r : Row} (h : OkRed w m kept r) {N : Nat} (hN : n + 1 ≤ N) :
    run tab wf N t [.lst (kept.map rowD), rowD r] = some (rowD (redR kept r)) := by
  obtain ⟨N, rfl⟩ : ∃ k, N = k + 1 := ⟨N - 1, by omega⟩
  have loop : ∀ (os : List Row) (r : Row) (a v : SV), OkRed w m os r → ∃ v', forM (stepF (run tab wf N) wf [2] (.cons (.set 1 (.call ta (.cons (.slot 1) (.cons (.idx (.idx (.slot 1) (.cint 0)) (.call le (.cons (.slot 2) .nil) [])) (.cons (.slot 2) .nil))) [])) .nil)) (os.map rowD) [a, .val (rowD r), v] = some (.nx [a, .val (rowD (redR os r)), v']) := by
    intro os
    induction os with
    | nil => intro r a v _; exact ⟨v, rfl⟩
    | cons o os ih =>
      intro r a v ⟨hr, ho, ⟨l, hl⟩, h⟩
      have hll := lead_some hl
      have hlw : l < w := by rw [← ho.lc]; exact hll.1
      have hlr : l < r.c.length := by rw [hr.lc]; exact hlw
      rw [hl] at h
      have h1 := hle N (by omega) o ho
      have h2 := hta N (by omega) r o (gD r.c l) hr ho (hr.c l hlw)
      have hs : stepF (run tab wf N) wf [2] (.cons (.set 1 (.call ta (.cons (.slot 1) (.cons (.idx (.idx (.slot 1) (.cint 0)) (.call le (.cons (.slot 2) .nil) [])) (.cons (.slot 2) .nil))) [])) .nil) (rowD o) [a, .val (rowD r), v] = some (.nx [a, .val (rowD (taken r (gD r.c l) o)), .val (rowD o)]) := by
        simp [stepF, h1, hl, optD, ix_frs' hlr, h2]
      rw [List.map_cons, forM_cons, hs]
      have e : redR (o :: os) r = redR os (taken r (gD r.c l) o) := by
        show redR os (taken r (gD r.c ((lead o.c).getD 0)) o) = _
        rw [hl]; rfl
      rw [e]
      exact ih _ a _ h
  obtain ⟨v', h'⟩ := loop kept r (.val (.lst (kept.map rowD))) .non h
  refine run_rt [.val (.lst (kept.map rowD)), .val (rowD r), .non] ht rfl rfl ?_
  simp [reducedFd, evS_forF, lst?, h']
theorem run_joined {t ta le di n w m : Nat} (ht : tab[t]? = some (joinedFd ta le di))
    (hta : ∀ N, n ≤ N → ∀ (r o : Row) (f : Rat), RSz w m 1200 r → RSz w m 1200 o → Sz 1200 f → run tab wf N ta [rowD r, fr f, rowD o] = some (rowD (taken r f o)))
    (hle : ∀ N, n ≤ N → ∀ (r : Row), RSz w m 1200 r → run tab wf N le [rowD r] = some (optD (lead r.c)))
    (hdi : ∀ N, n ≤ N → ∀ (r : Row) (q : Rat), RSz w m 1200 r → Sz 1200 q → q ≠ 0 → run tab wf N di [rowD r, fr q] = some (rowD (divd r q)))
    {kept : List Row} {r : Row} {l : Nat} (hl : lead r.c = some l) (hr : RSz w m 1200 r) (hd : RSz w m 1200 (divd r (gD r.c l))) (hk : ∀ o ∈ kept, RSz w m 1200 o) (hn : kept.length < line) {N : Nat} (hN : n + 1 ≤ N) :
    run tab wf N t [.lst (kept.map rowD), rowD r] = some (.lst ((joinR kept r).map rowD)) := by
  obtain ⟨N, rfl⟩ : ∃ k, N = k + 1 := ⟨N - 1, by omega⟩
  have hll := lead_some hl
  have hlw : l < w := by rw [← hr.lc]; exact hll.1
  have h1 := hle N (by omega) r hr
  have h2 := hdi N (by omega) r (gD r.c l) hr (hr.c l hlw) hll.2.1
  have h3 : evE (run tab wf N) (.comp (.call ta (.cons (.slot 3) (.cons (.idx (.idx (.slot 3) (.cint 0)) (.slot 2)) (.cons (.slot 1) .nil))) []) [3] (.seq (.slot 0)) .nil [3]) [.val (.lst (kept.map rowD)), .val (rowD (divd r (gD r.c l))), .val (.int (l : Int)), .non] = some (.lst ((kept.map (fun o => taken o (gD o.c l) (divd r (gD r.c l)))).map rowD)) := by
    rw [ev_comp]
    have : compM (stepC (run tab wf N) (.call ta (.cons (.slot 3) (.cons (.idx (.idx (.slot 3) (.cint 0)) (.slot 2)) (.cons (.slot 1) .nil))) []) [3] .nil [3] [.val (.lst (kept.map rowD)), .val (rowD (divd r (gD r.c l))), .val (.int (l : Int)), .non]) (kept.map rowD) = some ((kept.map (fun o => taken o (gD o.c l) (divd r (gD r.c l)))).map rowD) := by
      generalize D.lst (kept.map rowD) = K
      clear h1 h2 hn
      induction kept with
      | nil => rfl
      | cons o os ih =>
        have ho := hk o (List.mem_cons_self ..)
        have hlo : l < o.c.length := by rw [ho.lc]; exact hlw
        have h4 := hta N (by omega) o (divd r (gD r.c l)) (gD o.c l) ho hd (ho.c l hlw)
        have h5 := ih fun x hx => hk x (List.mem_cons_of_mem _ hx)
        have hs : stepC (run tab wf N) (.call ta (.cons (.slot 3) (.cons (.idx (.idx (.slot 3) (.cint 0)) (.slot 2)) (.cons (.slot 1) .nil))) []) [3] .nil [3] [.val K, .val (rowD (divd r (gD r.c l))), .val (.int (l : Int)), .non] (rowD o) = some (some (rowD (taken o (gD o.c l) (divd r (gD r.c l))))) := by
          simp [stepC, ix_frs' hlo, h4]
        simp only [List.map_cons]
        unfold compM
        rw [hs, h5]
    simp only [evIt_seq, ev_slot, List.getElem?_cons_zero, lst?, this, List.length_map]
    rw [if_pos (decide_eq_true (by omega))]
  have hlr : l < r.c.length := hll.1
  have h6 : decide ((kept.map (fun o => taken o (gD o.c l) (divd r (gD r.c l)))).length + 1 ≤ line) = true := decide_eq_true (by simp; omega)
  have h7 : catD (.lst ((kept.map (fun o => taken o (gD o.c l) (divd r (gD r.c l)))).map rowD)) (.lst [rowD (divd r (gD r.c l))]) = some ((joinR kept r).map rowD) := by
    show (if decide (((kept.map (fun o => taken o (gD o.c l) (divd r (gD r.c l)))).map rowD).length + 1 ≤ line) = true then _ else _) = _
    rw [List.length_map, if_pos h6]
    simp only [joinR, hl, Option.getD_some, List.map_append, List.map_cons, List.map_nil]
  have h8 : (1 : Nat) ≤ line := by decide
  refine run_rt [.val (.lst (kept.map rowD)), .val (rowD r), .non, .non] ht rfl rfl ?_
  have h9 : evE (run tab wf N) (.bin .add (.comp (.call ta (.cons (.slot 3) (.cons (.idx (.idx (.slot 3) (.cint 0)) (.slot 2)) (.cons (.slot 1) .nil))) []) [3] (.seq (.slot 0)) .nil [3]) (.lst (.cons (.slot 1) .nil))) [.val (.lst (kept.map rowD)), .val (rowD (divd r (gD r.c l))), .val (.int (l : Int)), .non] = some (.lst ((joinR kept r).map rowD)) := by
    rw [ev_bin, h3]
    simp [h8]
    simp at h7
    rw [h7]
  simp [joinedFd, h1, hl, optD, ix_frs' hlr, h2, -ev_bin, h9]
end
end MP

/-! equality of data without truth values: a == b is a = b. -/
namespace MP
open PySem L2
mutual
/-- numbers, None, texts, tuples and lists of them, k deep at most -/
def okD : Nat → D → Bool
  | _, .non => true
  | _, .int _ => true
  | _, .str x => PyData.strOk x
  | k + 1, .tup ds => okDs k ds
  | k + 1, .lst ds => okDs k ds
  | _, _ => false
def okDs : Nat → List D → Bool
  | _, [] => true
  | k, d :: ds => okD k d && okDs k ds
end
mutual
theorem ok_py : ∀ (k : Nat) (d : D), okD k d = true → ∃ x, toPy d = some x ∧ x.canLay0 = true ∧ x.depth ≤ k
  | k, .non, _ => ⟨.none, by simp [toPy], rfl, by simp [PyData.depth]⟩
  | k, .int i, _ => ⟨.int i, by simp [toPy], rfl, by simp [PyData.depth]⟩
  | k, .str x, h => ⟨.str x, by simp [toPy], by cases k <;> simpa [okD, PyData.canLay0] using h, by simp [PyData.depth]⟩
  | 0, .tup ds, h => by simp [okD] at h
  | k + 1, .tup ds, h => by
    obtain ⟨xs, h1, h2, h3⟩ := oks_py k ds (by simpa [okD] using h)
    exact ⟨.tuple xs, by simp [toPy, h1], by simpa [PyData.canLay0] using h2, by simp [PyData.depth]; omega⟩
  | 0, .lst ds, h => by simp [okD] at h
  | k + 1, .lst ds, h => by
    obtain ⟨xs, h1, h2, h3⟩ := oks_py k ds (by simpa [okD] using h)
    exact ⟨.list xs, by simp [toPy, h1], by simpa [PyData.canLay0] using h2, by simp [PyData.depth]; omega⟩
  | k, .bl b, h => by cases k <;> simp [okD] at h
  | k, .own b, h => by cases k <;> simp [okD] at h
  | k, .obj t b, h => by cases k <;> simp [okD] at h
theorem oks_py : ∀ (k : Nat) (ds : List D), okDs k ds = true → ∃ xs, toPys ds = some xs ∧ PyData.canLayAll0 xs = true ∧ PyData.depthAll xs ≤ k
  | k, [], _ => ⟨[], by simp [toPys], rfl, by simp [PyData.depthAll]⟩
  | k, d :: ds, h => by
    have h' : okD k d = true ∧ okDs k ds = true := by simpa [okDs] using h
    obtain ⟨x, h1, h2, h3⟩ := ok_py k d h'.1
    obtain ⟨xs, k1, k2, k3⟩ := oks_py k ds h'.2
    exact ⟨x :: xs, by simp [toPys, h1, k1], by simp [PyData.canLayAll0, h2, k2], by simp [PyData.depthAll]; omega⟩
end
theorem okt {k : Nat} {ds : List D} (h : okD k (.tup ds) = true) : ∃ j, okDs j ds = true := by
  cases k with
  | zero => simp [okD] at h
  | succ k => exact ⟨k, by simpa [okD] using h⟩
theorem okl {k : Nat} {ds : List D} (h : okD k (.lst ds) = true) : ∃ j, okDs j ds = true := by
  cases k with
  | zero => simp [okD] at h
  | succ k => exact ⟨k, by simpa [okD] using h⟩
theorem ok_bl {k : Nat} {b : Bool} (h : okD k (.bl b) = true) : False := by cases k <;> simp [okD] at h
theorem ok_own {k : Nat} {b : List D} (h : okD k (.own b) = true) : False := by cases k <;> simp [okD] at h
theorem ok_obj {k t : Nat} {b : D} (h : okD k (.obj t b) = true) : False := by cases k <;> simp [okD] at h
theorem py_tup {ds : List D} {x : PyData} (h : toPy (.tup ds) = some x) : ∃ xs, toPys ds = some xs ∧ x = .tuple xs := by
  unfold toPy at h
  cases hx : toPys ds with
  | none => rw [hx] at h; cases h
  | some xs => rw [hx] at h; cases h; exact ⟨xs, rfl, rfl⟩
theorem py_lst {ds : List D} {x : PyData} (h : toPy (.lst ds) = some x) : ∃ xs, toPys ds = some xs ∧ x = .list xs := by
  unfold toPy at h
  cases hx : toPys ds with
  | none => rw [hx] at h; cases h
  | some xs => rw [hx] at h; cases h; exact ⟨xs, rfl, rfl⟩
theorem py_cons {d : D} {ds : List D} {x : List PyData} (h : toPys (d :: ds) = some x) : ∃ y ys, toPy d = some y ∧ toPys ds = some ys ∧ x = y :: ys := by
  unfold toPys at h
  cases hx : toPy d with
  | none => rw [hx] at h; cases h
  | some y => cases hy : toPys ds with
    | none => rw [hx, hy] at h; cases h
    | some ys => rw [hx, hy] at h; cases h; exact ⟨y, ys, rfl, rfl, rfl⟩
mutual
theorem ok_eqv : ∀ (d e : D) (k j : Nat) (x y : PyData), okD k d = true → okD j e = true → toPy d = some x → toPy e = some y → PyData.eqv x y = true → d = e
  | .non, e, k, j, x, y, h, h', hx, hy, q => by
    cases e with
    | non => rfl
    | bl b => exact (ok_bl h').elim
    | own b => exact (ok_own h').elim
    | obj t b => exact (ok_obj h').elim
    | int i => simp [toPy] at hx hy; subst hx hy; simp [PyData.eqv] at q
    | str i => simp [toPy] at hx hy; subst hx hy; simp [PyData.eqv] at q
    | tup ds => obtain ⟨xs, _, rfl⟩ := py_tup hy; simp [toPy] at hx; subst hx; simp [PyData.eqv] at q
    | lst ds => obtain ⟨xs, _, rfl⟩ := py_lst hy; simp [toPy] at hx; subst hx; simp [PyData.eqv] at q
  | .int a, e, k, j, x, y, h, h', hx, hy, q => by
    cases e with
    | bl b => exact (ok_bl h').elim
    | own b => exact (ok_own h').elim
    | obj t b => exact (ok_obj h').elim
    | non => simp [toPy] at hx hy; subst hx hy; simp [PyData.eqv] at q
    | int i => simp [toPy] at hx hy; subst hx hy; simp [PyData.eqv] at q; rw [q]
    | str i => simp [toPy] at hx hy; subst hx hy; simp [PyData.eqv] at q
    | tup ds => obtain ⟨xs, _, rfl⟩ := py_tup hy; simp [toPy] at hx; subst hx; simp [PyData.eqv] at q
    | lst ds => obtain ⟨xs, _, rfl⟩ := py_lst hy; simp [toPy] at hx; subst hx; simp [PyData.eqv] at q
  | .str a, e, k, j, x, y, h, h', hx, hy, q => by
    cases e with
    | bl b => exact (ok_bl h').elim
    | own b => exact (ok_own h').elim
    | obj t b => exact (ok_obj h').elim
    | non => simp [toPy] at hx hy; subst hx hy; simp [PyData.eqv] at q
    | int i => simp [toPy] at hx hy; subst hx hy; simp [PyData.eqv] at q
    | str i => simp [toPy] at hx hy; subst hx hy; simp [PyData.eqv] at q; rw [q]
    | tup ds => obtain ⟨xs, _, rfl⟩ := py_tup hy; simp [toPy] at hx; subst hx; simp [PyData.eqv] at q
    | lst ds => obtain ⟨xs, _, rfl⟩ := py_lst hy; simp [toPy] at hx; subst hx; simp [PyData.eqv] at q
  | .tup ds, e, k, j, x, y, h, h', hx, hy, q => by
    obtain ⟨xs, h1, rfl⟩ := py_tup hx
    cases e with
    | bl b => exact (ok_bl h').elim
    | own b => exact (ok_own h').elim
    | obj t b => exact (ok_obj h').elim
    | non => simp [toPy] at hy; subst hy; simp [PyData.eqv] at q
    | int i => simp [toPy] at hy; subst hy; simp [PyData.eqv] at q
    | str i => simp [toPy] at hy; subst hy; simp [PyData.eqv] at q
    | tup es =>
      obtain ⟨ys, h2, rfl⟩ := py_tup hy
      obtain ⟨k', o1⟩ := okt h
      obtain ⟨j', o2⟩ := okt h'
      rw [oks_eqv ds es k' j' xs ys o1 o2 h1 h2 (by simpa [PyData.eqv] using q)]
    | lst es => obtain ⟨ys, _, rfl⟩ := py_lst hy; simp [PyData.eqv] at q
  | .lst ds, e, k, j, x, y, h, h', hx, hy, q => by
    obtain ⟨xs, h1, rfl⟩ := py_lst hx
    cases e with
    | bl b => exact (ok_bl h').elim
    | own b => exact (ok_own h').elim
    | obj t b => exact (ok_obj h').elim
    | non => simp [toPy] at hy; subst hy; simp [PyData.eqv] at q
    | int i => simp [toPy] at hy; subst hy; simp [PyData.eqv] at q
    | str i => simp [toPy] at hy; subst hy; simp [PyData.eqv] at q
    | lst es =>
      obtain ⟨ys, h2, rfl⟩ := py_lst hy
      obtain ⟨k', o1⟩ := okl h
      obtain ⟨j', o2⟩ := okl h'
      rw [oks_eqv ds es k' j' xs ys o1 o2 h1 h2 (by simpa [PyData.eqv] using q)]
    | tup es => obtain ⟨ys, _, rfl⟩ := py_tup hy; simp [PyData.eqv] at q
  | .bl b, _, _, _, _, _, h, _, _, _, _ => (ok_bl h).elim
  | .own b, _, _, _, _, _, h, _, _, _, _ => (ok_own h).elim
  | .obj t b, _, _, _, _, _, h, _, _, _, _ => (ok_obj h).elim
theorem oks_eqv : ∀ (ds es : List D) (k j : Nat) (xs ys : List PyData), okDs k ds = true → okDs j es = true → toPys ds = some xs → toPys es = some ys → PyData.eqvAll xs ys = true → ds = es
  | [], [], _, _, _, _, _, _, _, _, _ => rfl
  | [], e :: es, _, _, xs, ys, _, _, hx, hy, q => by
    obtain ⟨y, ys, _, _, rfl⟩ := py_cons hy
    simp [toPys] at hx; subst hx; simp [PyData.eqvAll] at q
  | d :: ds, [], _, _, xs, ys, _, _, hx, hy, q => by
    obtain ⟨x, xs, _, _, rfl⟩ := py_cons hx
    simp [toPys] at hy; subst hy; simp [PyData.eqvAll] at q
  | d :: ds, e :: es, k, j, xs, ys, h, h', hx, hy, q => by
    obtain ⟨x, xs, h1, h2, rfl⟩ := py_cons hx
    obtain ⟨y, ys, h3, h4, rfl⟩ := py_cons hy
    have o1 : okD k d = true ∧ okDs k ds = true := by simpa [okDs] using h
    have o2 : okD j e = true ∧ okDs j es = true := by simpa [okDs] using h'
    have q' : PyData.eqv x y = true ∧ PyData.eqvAll xs ys = true := by simpa [PyData.eqvAll] using q
    rw [ok_eqv d e k j x y o1.1 o2.1 h1 h3 q'.1, oks_eqv ds es k j xs ys o1.2 o2.2 h2 h4 q'.2]
end
open Classical in
theorem eq_ok {a b : D} {j k : Nat} (ha : okD j a = true) (hb : okD k b = true) (hj : j ≤ 64) (hk : k ≤ 64) : cmpD .eq a b = some (decide (a = b)) := by
  have sa : seen a = a := by cases a <;> first | rfl | exact (ok_own ha).elim
  have sb : seen b = b := by cases b <;> first | rfl | exact (ok_own hb).elim
  obtain ⟨x, h1, h2, h3⟩ := ok_py j a ha
  obtain ⟨y, k1, k2, k3⟩ := ok_py k b hb
  have s1 : SeqAt.shaped x = true := by unfold SeqAt.shaped; rw [h2, decide_eq_true (by omega)]; rfl
  have s2 : SeqAt.shaped y = true := by unfold SeqAt.shaped; rw [k2, decide_eq_true (by omega)]; rfl
  show eqD a b = _
  unfold eqD
  rw [sa, sb, h1, k1]
  simp only [s1, s2, Bool.and_self, if_true]
  congr 1
  by_cases e : a = b
  · subst e
    rw [h1] at k1; cases k1
    rw [SeqAt.eqv_refl x h2, decide_eq_true rfl]
  · rw [decide_eq_false e]
    cases q : PyData.eqv x y with
    | false => rfl
    | true => exact absurd (ok_eqv a b j k x y ha hb h1 k1 q) e
open Classical in
theorem ne_ok {a b : D} {j k : Nat} (ha : okD j a = true) (hb : okD k b = true) (hj : j ≤ 64) (hk : k ≤ 64) : cmpD .ne a b = some (!decide (a = b)) := by
  have := eq_ok ha hb hj hk
  show (eqD a b).map _ = _
  have e : eqD a b = some (decide (a = b)) := this
  rw [e]; rfl
theorem eq_same {a : D} {k : Nat} (ha : okD k a = true) (hk : k ≤ 64) : cmpD .eq a a = some true := by rw [eq_ok ha ha hk hk]; simp
theorem eq_diff {a b : D} {j k : Nat} (ha : okD j a = true) (hb : okD k b = true) (hj : j ≤ 64) (hk : k ≤ 64) (h : a ≠ b) : cmpD .eq a b = some false := by rw [eq_ok ha hb hj hk]; simp [h]
theorem ne_same {a : D} {k : Nat} (ha : okD k a = true) (hk : k ≤ 64) : cmpD .ne a a = some false := by rw [ne_ok ha ha hk hk]; simp
theorem ne_diff {a b : D} {j k : Nat} (ha : okD j a = true) (hb : okD k b = true) (hj : j ≤ 64) (hk : k ≤ 64) (h : a ≠ b) : cmpD .ne a b = some true := by rw [ne_ok ha hb hj hk]; simp [h]
theorem okDs_of {k : Nat} {ds : List D} (h : ∀ d ∈ ds, okD k d = true) : okDs k ds = true := by
  induction ds with
  | nil => rfl
  | cons d ds ih =>
    unfold okDs
    rw [h d (List.mem_cons_self ..), ih fun e he => h e (List.mem_cons_of_mem _ he)]; rfl
theorem ok_fr (q : Rat) (k : Nat) : okD (k + 1) (fr q) = true := by simp [fr, okD, okDs]
theorem fr_inj {a b : Rat} (h : fr a = fr b) : a = b := by
  simp only [fr, D.tup.injEq, List.cons.injEq, D.int.injEq, and_true] at h
  exact Rat.ext h.1 (by omega)
@[simp] theorem fr_eq (a b : Rat) : (fr a = fr b) = (a = b) := propext ⟨fr_inj, fun e => e ▸ rfl⟩
end MP

/-! runs of settle and worth_of. -/
namespace MP
open PySem L2
def settleBody (re le jo : Nat) : Ss := (.cons (.set 4 (.comp (.tup (.cons (.ite (.cmp .eq (.slot 6) (.slot 3)) (.cint 1) (.cint 0)) (.cons (.cint 1) .nil))) [6] (.rng1 (.prim .len (.cons (.slot 0) .nil))) .nil [6])) (.cons (.set 5 (.call re (.cons (.slot 2) (.cons (.tup (.cons (.prim .list (.cons (.idx (.idx (.slot 0) (.slot 3)) (.cint 0)) .nil)) (.cons (.idx (.idx (.slot 0) (.slot 3)) (.cint 1)) (.cons (.slot 4) .nil)))) .nil)) [])) (.cons (.ifS (.cmp .isnot (.call le (.cons (.slot 5) .nil) []) .cnon) (.cons (.set 2 (.call jo (.cons (.slot 2) (.cons (.slot 5) .nil)) [])) .nil) (.cons (.ifS (.cmp .ne (.idx (.idx (.slot 5) (.cint 1)) (.cint 0)) (.cint 0)) (.cons (.ret (.tup (.cons (.cstr "conflict") (.cons (.comp (.slot 6) [6] (.rng1 (.prim .len (.cons (.slot 0) .nil))) (.cons (.cmp .ne (.idx (.idx (.idx (.slot 5) (.cint 2)) (.slot 6)) (.cint 0)) (.cint 0)) .nil) [6]) .nil)))) .nil) .nil) .nil)) .nil)))
def settleFd (re le jo : Nat) : Fd := ⟨2, 7, (.cons (.set 2 (.lst .nil)) (.cons (.forS [3] (.rng1 (.prim .len (.cons (.slot 0) .nil))) (settleBody re le jo)) (.cons (.ret (.tup (.cons (.cstr "kept") (.cons (.slot 2) .nil)))) .nil)))⟩
def worthFd (le : Nat) : Fd := ⟨2, 4, (.cons (.forS [2] (.seq (.slot 0)) (.cons (.ifS (.and (.cons (.cmp .eq (.call le (.cons (.slot 2) .nil) []) (.slot 1)) (.cons (.cmp .eq (.comp (.slot 3) [3] (.rng1 (.prim .len (.cons (.idx (.slot 2) (.cint 0)) .nil))) (.cons (.cmp .ne (.idx (.idx (.idx (.slot 2) (.cint 0)) (.slot 3)) (.cint 0)) (.cint 0)) .nil) [3]) (.lst (.cons (.slot 1) .nil))) .nil))) (.cons (.ret (.idx (.slot 2) (.cint 1))) .nil) .nil) .nil)) (.cons (.ret .cnon) .nil))⟩
/-- an equation: coefficients and bound -/
structure Eqn where
  c : List Rat
  b : Rat
def eqnD (e : Eqn) : D := .tup [frs e.c, fr e.b]
@[simp] theorem pure_eqnD (r : Eqn) : pure? (eqnD r) = some (eqnD r) := id rfl
@[simp] theorem ix_eqnD0 (r : Eqn) : ixD (eqnD r) (.int 0) = some (frs r.c) := id (ix_t0 ..)
@[simp] theorem ix_eqnD1 (r : Eqn) : ixD (eqnD r) (.int 1) = some (fr r.b) := id (ix_t1 ..)
@[simp] theorem lst_frs (c : List Rat) : lst? (frs c) = some (c.map fr) := id rfl
def unitR (n k : Nat) : List Rat := (List.range n).map fun at_ => if at_ = k then 1 else 0
theorem opt_isnot (o : Option Nat) : cmpD .isnot (optD o) .non = some o.isSome := by cases o <;> rfl
@[simp] theorem pure_optD (o : Option Nat) : pure? (optD o) = some (optD o) := by cases o <;> rfl
section
variable {tab : List Fd} {wf : Nat}
theorem unit_comp {Φ : Nat → List D → Option D} {n k : Nat} (hn : n ≤ line) {ρ : Rho} {a : E} {j : Nat} (ha : evE Φ a ρ = some (.int (n : Int))) (hk : ρ[k]? = some (.val (.int (j : Int)))) {s : Nat} (hs : s < ρ.length) (hsk : s ≠ k) :
    evE Φ (.comp (.tup (.cons (.ite (.cmp .eq (.slot s) (.slot k)) (.cint 1) (.cint 0)) (.cons (.cint 1) .nil))) [s] (.rng1 a) .nil [s]) ρ = some (frs (unitR n j)) := by
  have h2 : (2 : Nat) ≤ line := by decide
  rw [comp_range (n := n) (g := fun i => fr (if i = j then 1 else 0)) ha hn]
  · simp [frs, unitR]
  · intro i hi
    have e1 : (ρ.set s (.val (.int (i : Int))))[s]? = some (.val (.int (i : Int))) := by simp [hs]
    have e2 : (ρ.set s (.val (.int (i : Int))))[k]? = some (.val (.int (j : Int))) := by rw [List.getElem?_set_ne hsk, hk]
    by_cases e : i = j
    · subst e
      simp [e1, e2, h2]; rfl
    · have : ¬ (i : Int) = (j : Int) := by omega
      have d : decide ((i : Int) = (j : Int)) = false := decide_eq_false this
      simp [e1, e2, h2, e, d]; rfl
/-- what settle needs of each turn -/
structure Turn (w n : Nat) (Inv : Nat → List Row → Prop) (rows : List Eqn) : Prop where
  nl : n = rows.length
  red : ∀ k kept e, rows[k]? = some e → Inv k kept → OkRed w n kept ⟨e.c, e.b, unitR n k⟩
  sz : ∀ k kept e, rows[k]? = some e → Inv k kept → RSz w n 1200 (redR kept ⟨e.c, e.b, unitR n k⟩)
  yes : ∀ k kept e l, rows[k]? = some e → Inv k kept → lead (redR kept ⟨e.c, e.b, unitR n k⟩).c = some l →
    RSz w n 1200 (divd (redR kept ⟨e.c, e.b, unitR n k⟩) (gD (redR kept ⟨e.c, e.b, unitR n k⟩).c l)) ∧ (∀ o ∈ kept, RSz w n 1200 o) ∧ kept.length < line ∧ Inv (k + 1) (joinR kept (redR kept ⟨e.c, e.b, unitR n k⟩))
  no : ∀ k kept e, rows[k]? = some e → Inv k kept → lead (redR kept ⟨e.c, e.b, unitR n k⟩).c = none → (redR kept ⟨e.c, e.b, unitR n k⟩).b = 0 ∧ Inv (k + 1) kept
theorem settle_turn {re le jo n w k N : Nat} {Inv : Nat → List Row → Prop} {rows : List Eqn} {M : D} (hw : w ≤ line) (hm : n ≤ line)
    (hre : ∀ (kept : List Row) (r : Row), OkRed w n kept r → run tab wf N re [.lst (kept.map rowD), rowD r] = some (rowD (redR kept r)))
    (hle : ∀ (r : Row), RSz w n 1200 r → run tab wf N le [rowD r] = some (optD (lead r.c)))
    (hjo : ∀ (kept : List Row) (r : Row) (l : Nat), lead r.c = some l → RSz w n 1200 r → RSz w n 1200 (divd r (gD r.c l)) → (∀ o ∈ kept, RSz w n 1200 o) → kept.length < line → run tab wf N jo [.lst (kept.map rowD), rowD r] = some (.lst ((joinR kept r).map rowD)))
    (hT : Turn w n Inv rows) {kept : List Row} (hk : k < n) (hI : Inv k kept) (x y z u : SV) :
    ∃ kept' x' y' z', Inv (k + 1) kept' ∧ stepF (run tab wf N) wf [3] (settleBody re le jo) (.int (k : Int)) [.val (.lst (rows.map eqnD)), .val M, .val (.lst (kept.map rowD)), x, y, z, u] =
      some (.nx [.val (.lst (rows.map eqnD)), .val M, .val (.lst (kept'.map rowD)), x', y', z', u]) := by
  obtain ⟨e, he⟩ : ∃ e, rows[k]? = some e := ⟨rows[k]'(by rw [← hT.nl]; exact hk), List.getElem?_eq_getElem _⟩
  have h3 : (3 : Nat) ≤ line := by decide
  have hix : ixD (.lst (rows.map eqnD)) (.int (k : Int)) = some (eqnD e) := ix_lst (by rw [List.getElem?_map, he]; rfl)
  have hr := hre kept _ (hT.red k kept e he hI)
  have hs := hT.sz k kept e he hI
  have hu : evE (run tab wf N) (.comp (.tup (.cons (.ite (.cmp .eq (.slot 6) (.slot 3)) (.cint 1) (.cint 0)) (.cons (.cint 1) .nil))) [6] (.rng1 (.prim .len (.cons (.slot 0) .nil))) .nil [6])
      [.val (.lst (rows.map eqnD)), .val M, .val (.lst (kept.map rowD)), .val (.int (k : Int)), y, z, u] = some (frs (unitR n k)) :=
    unit_comp hm (by simp [hT.nl]) rfl (by simp) (by decide)
  have hr' : run tab wf N re [.lst (kept.map rowD), .tup [.lst (e.c.map fr), fr e.b, frs (unitR n k)]] = some (rowD (redR kept ⟨e.c, e.b, unitR n k⟩)) := hr
  have hl := hle _ hs
  generalize hR : redR kept ⟨e.c, e.b, unitR n k⟩ = R at hr' hl hs
  cases hc : lead R.c with
  | none =>
    have hn := hT.no k kept e he hI (by rw [hR]; exact hc)
    rw [hR] at hn
    refine ⟨kept, .val (.int (k : Int)), .val (frs (unitR n k)), .val (rowD R), hn.2, ?_⟩
    simp [stepF, settleBody, hu, hix, hr', h3, hl, opt_isnot, hc, hn.1]
  | some l =>
    have hy := hT.yes k kept e l he hI (by rw [hR]; exact hc)
    rw [hR] at hy
    have hj := hjo kept R l hc hs hy.1 hy.2.1 hy.2.2.1
    refine ⟨joinR kept R, .val (.int (k : Int)), .val (frs (unitR n k)), .val (rowD R), hy.2.2.2, ?_⟩
    simp [stepF, settleBody, hu, hix, hr', h3, hl, opt_isnot, hc, hj]
theorem run_settle {t re le jo n w N : Nat} {Inv : Nat → List Row → Prop} {rows : List Eqn} {M : D} (ht : tab[t]? = some (settleFd re le jo)) (hw : w ≤ line) (hm : n ≤ line)
    (hre : ∀ (kept : List Row) (r : Row), OkRed w n kept r → run tab wf N re [.lst (kept.map rowD), rowD r] = some (rowD (redR kept r)))
    (hle : ∀ (r : Row), RSz w n 1200 r → run tab wf N le [rowD r] = some (optD (lead r.c)))
    (hjo : ∀ (kept : List Row) (r : Row) (l : Nat), lead r.c = some l → RSz w n 1200 r → RSz w n 1200 (divd r (gD r.c l)) → (∀ o ∈ kept, RSz w n 1200 o) → kept.length < line → run tab wf N jo [.lst (kept.map rowD), rowD r] = some (.lst ((joinR kept r).map rowD)))
    (hT : Turn w n Inv rows) (h0 : Inv 0 []) :
    ∃ kept, Inv n kept ∧ run tab wf (N + 1) t [.lst (rows.map eqnD), M] = some (.tup [.str "kept", .lst (kept.map rowD)]) := by
  have loop : ∀ (m k : Nat) (kept : List Row) (x y z u : SV), k + m = n → Inv k kept → ∃ kept' x' y' z', Inv n kept' ∧
      forM (stepF (run tab wf N) wf [3] (settleBody re le jo)) ((List.range' k m).map fun (i : Nat) => D.int (i : Int)) [.val (.lst (rows.map eqnD)), .val M, .val (.lst (kept.map rowD)), x, y, z, u] =
      some (.nx [.val (.lst (rows.map eqnD)), .val M, .val (.lst (kept'.map rowD)), x', y', z', u]) := by
    intro m
    induction m with
    | zero => intro k kept x y z u e hI; exact ⟨kept, x, y, z, by rw [← e]; exact hI, rfl⟩
    | succ m ih =>
      intro k kept x y z u e hI
      obtain ⟨kept', x', y', z', hI', hs⟩ := settle_turn (wf := wf) (M := M) hw hm hre hle hjo hT (by omega : k < n) hI x y z u
      have hl : (List.range' k (m + 1)).map (fun (i : Nat) => D.int (i : Int)) = .int (k : Int) :: (List.range' (k + 1) m).map fun (i : Nat) => D.int (i : Int) := rfl
      rw [hl, forM_cons, hs]
      exact ih (k + 1) kept' x' y' z' u (by omega) hI'
  obtain ⟨kept, x', y', z', hI, hs⟩ := loop n 0 [] .non .non .non .non (by omega) h0
  refine ⟨kept, hI, ?_⟩
  have hk := okRng_nat (n := rows.length) (by rw [← hT.nl]; exact hm)
  have e : rng 0 (rows.length : Int) = (List.range' 0 n).map fun (k : Nat) => D.int (k : Int) := by rw [rng_nat, List.range_eq_range', hT.nl]
  have h2 : (2 : Nat) ≤ line := by decide
  have h0' : (0 : Nat) ≤ line := Nat.zero_le _
  rw [List.map_nil] at hs
  refine run_rt [.val (.lst (rows.map eqnD)), .val M, .non, .non, .non, .non, .non] ht rfl rfl ?_
  simp [settleFd, evS_forF, hk, e, hs, h2, h0']
theorem opt_eq (o : Option Nat) (a : Nat) : cmpD .eq (optD o) (.int (a : Int)) = some (decide (o = some a)) := by
  cases o with
  | none => rw [show optD none = D.non from rfl, eq_ok (j := 0) (k := 0) (by rfl) (by rfl) (by decide) (by decide)]; simp
  | some l => rw [show optD (some l) = D.int (l : Int) from rfl, cmp_eqI]; congr 1; simp; omega
theorem nats_eq (xs ys : List Nat) : cmpD .eq (.lst (xs.map fun (k : Nat) => D.int (k : Int))) (.lst (ys.map fun (k : Nat) => D.int (k : Int))) = some (decide (xs = ys)) := by
  have ok : ∀ zs : List Nat, okD 1 (.lst (zs.map fun (k : Nat) => D.int (k : Int))) = true := by
    intro zs
    show okDs 0 _ = true
    refine okDs_of fun d hd => ?_
    obtain ⟨k, _, rfl⟩ := List.mem_map.mp hd
    rfl
  have inj : ∀ xs ys : List Nat, xs.map (fun (k : Nat) => D.int (k : Int)) = ys.map (fun (k : Nat) => D.int (k : Int)) → xs = ys := by
    intro xs
    induction xs with
    | nil => intro ys h; cases ys with | nil => rfl | cons y ys => simp at h
    | cons x xs ih =>
      intro ys h
      cases ys with
      | nil => simp at h
      | cons y ys =>
        simp at h
        have : x = y := by omega
        rw [ih ys h.2, this]
  by_cases e : xs = ys
  · subst e; rw [eq_same (ok xs) (by decide)]; simp
  · rw [decide_eq_false e, eq_diff (ok xs) (ok ys) (by decide) (by decide) fun h => e (inj xs ys (D.lst.inj h))]
def isUnit (w a : Nat) (r : Row) : Bool := decide (lead r.c = some a) && decide ((List.range w).filter (fun k => decide (gD r.c k ≠ 0)) = [a])
def worthR (w : Nat) (kept : List Row) (a : Nat) : D := match kept.find? (isUnit w a) with | some r => fr r.b | none => .non
def worthBody (le : Nat) : Ss := (.cons (.ifS (.and (.cons (.cmp .eq (.call le (.cons (.slot 2) .nil) []) (.slot 1)) (.cons (.cmp .eq (.comp (.slot 3) [3] (.rng1 (.prim .len (.cons (.idx (.slot 2) (.cint 0)) .nil))) (.cons (.cmp .ne (.idx (.idx (.idx (.slot 2) (.cint 0)) (.slot 3)) (.cint 0)) (.cint 0)) .nil) [3]) (.lst (.cons (.slot 1) .nil))) .nil))) (.cons (.ret (.idx (.slot 2) (.cint 1))) .nil) .nil) .nil)
theorem worth_turn {le w m N : Nat} (hw : w ≤ line)
    (hle : ∀ (r : Row), RSz w m 1200 r → run tab wf N le [rowD r] = some (optD (lead r.c))) {r : Row} (hr : RSz w m 1200 r) (a : Nat) (K : D) (v : SV) :
    stepF (run tab wf N) wf [2] (worthBody le) (rowD r) [.val K, .val (.int (a : Int)), v, .non] = some (if isUnit w a r then .rt (fr r.b) else .nx [.val K, .val (.int (a : Int)), .val (rowD r), .non]) := by
  have h1 := hle r hr
  have hlen := hr.lc
  have h2 : evE (run tab wf N) (.comp (.slot 3) [3] (.rng1 (.prim .len (.cons (.idx (.slot 2) (.cint 0)) .nil))) (.cons (.cmp .ne (.idx (.idx (.idx (.slot 2) (.cint 0)) (.slot 3)) (.cint 0)) (.cint 0)) .nil) [3]) [.val K, .val (.int (a : Int)), .val (rowD r), .non]
      = some (.lst (((List.range w).filter (fun k => decide (gD r.c k ≠ 0))).map fun (k : Nat) => D.int (k : Int))) := by
    refine comp_range_if (by simp [hlen]) hw (fun k hk => ?_) (fun k hk _ => by simp)
    have hk' : k < r.c.length := by rw [hlen]; exact hk
    simp [ix_frs' hk', Rat.num_eq_zero]
  have h3 : (1 : Nat) ≤ line := by decide
  have h4 : D.lst [D.int (a : Int)] = D.lst ([a].map fun (k : Nat) => D.int (k : Int)) := rfl
  have h5 := nats_eq ((List.range w).filter (fun k => decide (gD r.c k ≠ 0))) [a]
  rw [← h4] at h5
  unfold isUnit
  generalize (List.range w).filter (fun k => decide (gD r.c k ≠ 0)) = F at h2 h5 ⊢
  by_cases c1 : lead r.c = some a
  · have c1' : decide (lead r.c = some a) = true := decide_eq_true c1
    rw [c1', Bool.true_and]
    by_cases c2 : F = [a]
    · rw [decide_eq_true c2] at h5 ⊢
      have h6 := opt_eq (lead r.c) a
      rw [c1'] at h6
      simp [stepF, worthBody, h1, h6, h2, h3, h5]
    · rw [decide_eq_false c2] at h5 ⊢
      have h6 := opt_eq (lead r.c) a
      rw [c1'] at h6
      simp [stepF, worthBody, h1, h6, h2, h3, h5]
  · have c1' : decide (lead r.c = some a) = false := decide_eq_false c1
    have h6 := opt_eq (lead r.c) a
    rw [c1'] at h6 ⊢
    simp [stepF, worthBody, h1, h6]
theorem run_worth {t le w m N : Nat} (ht : tab[t]? = some (worthFd le)) (hw : w ≤ line)
    (hle : ∀ (r : Row), RSz w m 1200 r → run tab wf N le [rowD r] = some (optD (lead r.c))) {kept : List Row} (hk : ∀ o ∈ kept, RSz w m 1200 o) (a : Nat) :
    run tab wf (N + 1) t [.lst (kept.map rowD), .int (a : Int)] = some (worthR w kept a) := by
  have loop : ∀ (os : List Row) (K : D) (v : SV), (∀ o ∈ os, RSz w m 1200 o) →
      (∀ r, os.find? (isUnit w a) = some r → forM (stepF (run tab wf N) wf [2] (worthBody le)) (os.map rowD) [.val K, .val (.int (a : Int)), v, .non] = some (.rt (fr r.b))) ∧
      (os.find? (isUnit w a) = none → ∃ v', forM (stepF (run tab wf N) wf [2] (worthBody le)) (os.map rowD) [.val K, .val (.int (a : Int)), v, .non] = some (.nx [.val K, .val (.int (a : Int)), v', .non])) := by
    intro os
    induction os with
    | nil => intro K v _; exact ⟨fun r h => by simp at h, fun _ => ⟨v, rfl⟩⟩
    | cons o os ih =>
      intro K v h
      have hs := worth_turn (wf := wf) hw hle (h o (List.mem_cons_self ..)) a K v
      rw [List.map_cons, forM_cons, hs, List.find?_cons]
      cases hu : isUnit w a o with
      | true => exact ⟨fun r hr => by cases hr; rfl, fun hr => by cases hr⟩
      | false => exact ih K _ fun x hx => h x (List.mem_cons_of_mem _ hx)
  have h := loop kept (.lst (kept.map rowD)) .non hk
  unfold worthR
  have hb : (worthFd le).body = .cons (.forS [2] (.seq (.slot 0)) (worthBody le)) (.cons (.ret .cnon) .nil) := rfl
  cases hf : kept.find? (isUnit w a) with
  | none =>
    obtain ⟨v', h'⟩ := h.2 hf
    refine run_rt [.val (.lst (kept.map rowD)), .val (.int (a : Int)), .non, .non] ht rfl rfl ?_
    rw [hb]
    simp [evS_forF, lst?, h']
  | some r =>
    have h' := h.1 r hf
    refine run_rt [.val (.lst (kept.map rowD)), .val (.int (a : Int)), .non, .non] ht rfl rfl ?_
    rw [hb]
    simp [evS_forF, lst?, h']
end
end MP

/-! spans over the rationals: no program in sight. -/
namespace MP
abbrev Vec := Nat → Rat
inductive Span (S : Vec → Prop) : Vec → Prop
  | zero : Span S (fun _ => 0)
  | step {v r : Vec} (a : Rat) : S r → Span S v → Span S (fun i => v i + a * r i)
namespace Span
variable {S T : Vec → Prop} {u v : Vec}
theorem cast (h : Span S u) (e : ∀ i, u i = v i) : Span S v := by rw [← funext e]; exact h
theorem of (h : S v) : Span S v := (step 1 h zero).cast fun i => by grind
theorem add (hu : Span S u) (hv : Span S v) : Span S (fun i => u i + v i) := by
  induction hu with
  | zero => exact hv.cast fun i => by grind
  | step a hr _ ih => exact (step a hr ih).cast fun i => by grind
theorem smul (b : Rat) (hv : Span S v) : Span S (fun i => b * v i) := by
  induction hv with
  | zero => exact zero.cast fun i => by grind
  | step a hr _ ih => exact (step (b * a) hr ih).cast fun i => by grind
theorem sub (hu : Span S u) (b : Rat) (hv : Span S v) : Span S (fun i => u i - b * v i) :=
  (hu.add (hv.smul (-b))).cast fun i => by grind
theorem le (h : ∀ r, S r → Span T r) (hv : Span S v) : Span T v := by
  induction hv with
  | zero => exact zero
  | step a hr _ ih => exact (ih.add ((h _ hr).smul a)).cast fun i => by grind
/-- a linear property of all -/
theorem lin {P : Vec → Prop} (h0 : P fun _ => 0) (hs : ∀ v r a, P v → S r → P fun i => v i + a * r i) (hv : Span S v) : P v := by
  induction hv with
  | zero => exact h0
  | step a hr _ ih => exact hs _ _ a ih hr
theorem vanish {k : Nat} (h : ∀ r, S r → r k = 0) (hv : Span S v) : v k = 0 := by
  induction hv with
  | zero => rfl
  | @step v r a hr _ ih =>
    show v k + a * r k = 0
    rw [ih, h _ hr]; grind
end Span
/-! ### counting leading places -/
/-- v is zero before c and not at c -/
def LeadsAt (v : Vec) (c : Nat) : Prop := (∀ i, i < c → v i = 0) ∧ v c ≠ 0
def Piv (V : Vec → Prop) (c : Nat) : Prop := ∃ v, V v ∧ LeadsAt v c
open Classical in
noncomputable def cnt (V : Vec → Prop) : Nat → Nat
  | 0 => 0
  | c + 1 => cnt V c + if Piv V c then 1 else 0
open Classical in
theorem cnt_le {V W : Vec → Prop} (h : ∀ v, V v → W v) : ∀ w, cnt V w ≤ cnt W w
  | 0 => Nat.le_refl _
  | w + 1 => by
    have := cnt_le h w
    unfold cnt
    by_cases hp : Piv V w
    · have : Piv W w := hp.elim fun v hv => ⟨v, h v hv.1, hv.2⟩
      rw [if_pos hp, if_pos this]; omega
    · rw [if_neg hp]; omega
open Classical in
theorem cnt_eq {V W : Vec → Prop} (h : ∀ v, V v → W v) : ∀ w, cnt V w = cnt W w → ∀ c, c < w → Piv W c → Piv V c
  | 0, _, c, hc, _ => absurd hc (Nat.not_lt_zero _)
  | w + 1, e, c, hc, hp => by
    have l := cnt_le h w
    unfold cnt at e
    have l2 : (if Piv V w then 1 else 0) ≤ if Piv W w then 1 else 0 := by
      by_cases hv : Piv V w
      · have : Piv W w := hv.elim fun v hv => ⟨v, h v hv.1, hv.2⟩
        rw [if_pos hv, if_pos this]; exact Nat.le_refl _
      · rw [if_neg hv]; exact Nat.zero_le _
    rcases Nat.lt_succ_iff_lt_or_eq.mp hc with hlt | rfl
    · exact cnt_eq h w (by omega) c hlt hp
    · by_cases hv : Piv V c
      · exact hv
      · rw [if_neg hv, if_pos hp] at e; omega
theorem cnt_congr {V W : Vec → Prop} (h : ∀ v, V v ↔ W v) (w : Nat) : cnt V w = cnt W w :=
  Nat.le_antisymm (cnt_le (fun v => (h v).mp) w) (cnt_le (fun v => (h v).mpr) w)
/-- equal counts: what the greater span holds the lesser holds -/
theorem span_of_cnt {S T : Vec → Prop} {w : Nat} (h : ∀ v, Span S v → Span T v) (hw : ∀ r, T r → ∀ i, w ≤ i → r i = 0) (e : cnt (Span S) w = cnt (Span T) w) :
    ∀ v, Span T v → Span S v := by
  have key : ∀ m c, c + m = w → ∀ v, Span T v → (∀ i, i < c → v i = 0) → Span S v := by
    intro m
    induction m with
    | zero =>
      intro c hc v hv hz
      refine Span.zero.cast fun i => ?_
      by_cases hi : i < c
      · exact (hz i hi).symm
      · exact (hv.vanish (k := i) fun r hr => hw r hr i (by omega)).symm
    | succ m ih =>
      intro c hc v hv hz
      by_cases h0 : v c = 0
      · exact ih (c + 1) (by omega) v hv fun i hi => by
          rcases Nat.lt_succ_iff_lt_or_eq.mp hi with hlt | rfl
          · exact hz i hlt
          · exact h0
      · obtain ⟨u, hu, hul⟩ := cnt_eq h w e c (by omega) ⟨v, hv, hz, h0⟩
        have h1 := ih (c + 1) (by omega) (fun i => v i - (v c / u c) * u i) (hv.sub _ (h u hu)) fun i hi => by
          rcases Nat.lt_succ_iff_lt_or_eq.mp hi with hlt | rfl
          · rw [hz i hlt, hul.1 i hlt]; grind
          · have := hul.2
            rw [Rat.div_mul_cancel this]; grind
        exact (h1.add (hu.smul (v c / u c))).cast fun i => by grind
  exact fun v hv => key w 0 (by omega) v hv fun i hi => absurd hi (Nat.not_lt_zero _)
/-- one more row leaves the count if and only if it lies in the span -/
theorem cnt_iff {S : Vec → Prop} {w : Nat} {u : Vec} (hS : ∀ r, S r → ∀ i, w ≤ i → r i = 0) (hu : ∀ i, w ≤ i → u i = 0) :
    cnt (Span fun r => S r ∨ r = u) w = cnt (Span S) w ↔ Span S u := by
  have h : ∀ v, Span S v → Span (fun r => S r ∨ r = u) v := fun v hv => hv.le fun r hr => .of (.inl hr)
  constructor
  · intro e
    exact span_of_cnt h (fun r hr => hr.elim (hS r) fun e => e ▸ hu) e.symm u (.of (.inr rfl))
  · intro hm
    refine cnt_congr (fun v => ⟨fun hv => hv.le fun r hr => ?_, h v⟩) w
    exact hr.elim .of fun e => e ▸ hm
end MP

/-! elimination counts the leading places of the span. -/
namespace MP
theorem gD_range {w : Nat} {f : Nat → Rat} {i : Nat} (h : i < w) : gD ((List.range w).map f) i = f i := by
  rw [gD_lt (by simpa using h)]; simp
theorem gD_past {c : List Rat} {i : Nat} (h : c.length ≤ i) : gD c i = 0 := by
  unfold gD
  rw [List.getD_eq_getElem?_getD, List.getElem?_eq_none h]; rfl
def pick (c : Nat) : List (List Rat) → Option (List Rat × List (List Rat))
  | [] => none
  | x :: xs => if gD x c ≠ 0 then some (x, xs) else match pick c xs with | some (r, ys) => some (r, x :: ys) | none => none
def clear (w c : Nat) (r x : List Rat) : List Rat := (List.range w).map fun k => gD x k + -(gD x c / gD r c) * gD r k
def rankF (w : Nat) : Nat → Nat → List (List Rat) → Nat
  | 0, _, _ => 0
  | m + 1, c, rest => match pick c rest with
    | none => rankF w m (c + 1) rest
    | some (r, ys) => rankF w m (c + 1) (ys.map (clear w c r)) + 1
def rowsS (rest : List (List Rat)) : Vec → Prop := fun v => ∃ x ∈ rest, v = gD x
theorem pick_none {c : Nat} : ∀ {rest : List (List Rat)}, pick c rest = none → ∀ x ∈ rest, gD x c = 0
  | [], _, x, hx => absurd hx (by simp)
  | y :: ys, h, x, hx => by
    unfold pick at h
    by_cases hy : gD y c ≠ 0
    · rw [if_pos hy] at h; cases h
    · rw [if_neg hy] at h
      cases hp : pick c ys with
      | none =>
        rcases List.mem_cons.mp hx with rfl | hx
        · simpa using hy
        · exact pick_none hp x hx
      | some q => rw [hp] at h; cases h
theorem pick_some {c : Nat} : ∀ {rest : List (List Rat)} {r : List Rat} {ys : List (List Rat)}, pick c rest = some (r, ys) → gD r c ≠ 0 ∧ ∀ x, x ∈ rest ↔ x = r ∨ x ∈ ys
  | [], _, _, h => by cases h
  | y :: zs, r, ys, h => by
    unfold pick at h
    by_cases hy : gD y c ≠ 0
    · rw [if_pos hy] at h; cases h
      exact ⟨hy, fun x => List.mem_cons⟩
    · rw [if_neg hy] at h
      cases hp : pick c zs with
      | none => rw [hp] at h; cases h
      | some q =>
        obtain ⟨q, us⟩ := q
        rw [hp] at h; cases h
        obtain ⟨h1, h2⟩ := pick_some hp
        refine ⟨h1, fun x => ?_⟩
        rw [List.mem_cons, List.mem_cons, h2 x]
        constructor
        · rintro (h | h | h) <;> simp [h]
        · rintro (h | h | h) <;> simp [h]
theorem clear_at {w c : Nat} {r x : List Rat} (hr : r.length = w) (hx : x.length = w) (i : Nat) : gD (clear w c r x) i = gD x i + -(gD x c / gD r c) * gD r i := by
  by_cases h : i < w
  · exact gD_range h
  · rw [gD_past (c := clear w c r x) (i := i) (by simp [clear]; omega), gD_past (c := x) (i := i) (by omega), gD_past (c := r) (i := i) (by omega)]; grind
theorem rank_count {V : Vec → Prop} {w : Nat} : ∀ (m c : Nat) (rest : List (List Rat)), (∀ x ∈ rest, x.length = w) → (∀ x ∈ rest, ∀ i, i < c → gD x i = 0) →
    (∀ v, (V v ∧ ∀ i, i < c → v i = 0) ↔ Span (rowsS rest) v) → cnt V c + rankF w m c rest = cnt V (c + m) := by
  intro m
  induction m with
  | zero => intro c rest _ _ _; rfl
  | succ m ih =>
    intro c rest hl hz hV
    have e : c + (m + 1) = (c + 1) + m := by omega
    rw [e]
    unfold rankF
    cases hp : pick c rest with
    | none =>
      have h0 := pick_none hp
      have hn : ¬ Piv V c := by
        rintro ⟨v, hv, hb, hc⟩
        exact hc (((hV v).mp ⟨hv, hb⟩).vanish (k := c) fun r ⟨x, hx, e⟩ => e ▸ h0 x hx)
      have hc : cnt V (c + 1) = cnt V c := by show cnt V c + _ = _; rw [if_neg hn]; rfl
      rw [← hc]
      refine ih (c + 1) rest hl (fun x hx i hi => ?_) fun v => ?_
      · rcases Nat.lt_succ_iff_lt_or_eq.mp hi with h | rfl
        · exact hz x hx i h
        · exact h0 x hx
      · rw [← hV v]
        constructor
        · exact fun ⟨h1, h2⟩ => ⟨h1, fun i hi => h2 i (by omega)⟩
        · refine fun ⟨h1, h2⟩ => ⟨h1, fun i hi => ?_⟩
          rcases Nat.lt_succ_iff_lt_or_eq.mp hi with h | rfl
          · exact h2 i h
          · exact ((hV v).mp ⟨h1, h2⟩).vanish fun r ⟨x, hx, e⟩ => e ▸ h0 x hx
    | some q =>
      obtain ⟨r, ys⟩ := q
      obtain ⟨hr0, hmem⟩ := pick_some hp
      have hrm : r ∈ rest := (hmem r).mpr (.inl rfl)
      have hym : ∀ x ∈ ys, x ∈ rest := fun x hx => (hmem x).mpr (.inr hx)
      have hrV := (hV (gD r)).mpr (.of ⟨r, hrm, rfl⟩)
      have hy : Piv V c := ⟨gD r, hrV.1, hrV.2, hr0⟩
      have hc : cnt V (c + 1) = cnt V c + 1 := by show cnt V c + _ = _; rw [if_pos hy]
      have hcl : ∀ x ∈ ys, ∀ i, gD (clear w c r x) i = gD x i + -(gD x c / gD r c) * gD r i := fun x hx i => clear_at (hl r hrm) (hl x (hym x hx)) i
      have h0 : ∀ x ∈ ys, gD (clear w c r x) c = 0 := fun x hx => by
        rw [hcl x hx c]
        have := Rat.div_mul_cancel (a := gD x c) hr0
        grind
      show cnt V c + (rankF w m (c + 1) (ys.map (clear w c r)) + 1) = _
      have : cnt V c + (rankF w m (c + 1) (ys.map (clear w c r)) + 1) = cnt V (c + 1) + rankF w m (c + 1) (ys.map (clear w c r)) := by omega
      rw [this]
      refine ih (c + 1) _ (fun x hx => ?_) (fun x hx i hi => ?_) fun v => ?_
      · obtain ⟨z, hz', rfl⟩ := List.mem_map.mp hx
        simp [clear]
      · obtain ⟨z, hz', rfl⟩ := List.mem_map.mp hx
        rcases Nat.lt_succ_iff_lt_or_eq.mp hi with h | rfl
        · rw [hcl z hz' i, hz z (hym z hz') i h, hz r hrm i h]; grind
        · exact h0 z hz'
      · have z0 : ∀ s, Span (rowsS (ys.map (clear w c r))) s → s c = 0 := fun s hs => hs.vanish fun q ⟨x, hx, e⟩ => by
          obtain ⟨z, hz', rfl⟩ := List.mem_map.mp hx
          rw [e]; exact h0 z hz'
        have back : ∀ s, Span (rowsS (ys.map (clear w c r))) s → Span (rowsS rest) s := fun s hs => hs.le fun q ⟨x, hx, e⟩ => by
          obtain ⟨z, hz', rfl⟩ := List.mem_map.mp hx
          subst e
          exact ((Span.of (S := rowsS rest) ⟨z, hym z hz', rfl⟩).sub (gD z c / gD r c) (.of ⟨r, hrm, rfl⟩)).cast fun i => by rw [hcl z hz' i]; grind
        constructor
        · intro ⟨h1, h2⟩
          have hs := (hV v).mp ⟨h1, fun i hi => h2 i (by omega)⟩
          have ⟨a, ha⟩ : ∃ a : Rat, Span (rowsS (ys.map (clear w c r))) fun i => v i - a * gD r i := by
            refine hs.lin (P := fun v => ∃ a : Rat, Span (rowsS (ys.map (clear w c r))) fun i => v i - a * gD r i) ⟨0, Span.zero.cast fun i => by grind⟩ ?_
            rintro v q b ⟨a, ha⟩ ⟨x, hx, rfl⟩
            rcases (hmem x).mp hx with rfl | hx
            · exact ⟨a + b, ha.cast fun i => by grind⟩
            · refine ⟨a + b * (gD x c / gD r c), (ha.add ((Span.of (S := rowsS (ys.map (clear w c r))) ⟨_, List.mem_map_of_mem hx, rfl⟩).smul b)).cast fun i => ?_⟩
              rw [hcl x hx i]; grind
          have hc0 := z0 _ ha
          have hv0 := h2 c (Nat.lt_succ_self c)
          have ha0 : a = 0 := by
            have : a * gD r c = 0 := by rw [hv0] at hc0; grind
            rcases Rat.mul_eq_zero.mp this with h | h
            · exact h
            · exact absurd h hr0
          exact ha.cast fun i => by rw [ha0]; grind
        · intro hs
          have h3 := (hV v).mpr (back v hs)
          refine ⟨h3.1, fun i hi => ?_⟩
          rcases Nat.lt_succ_iff_lt_or_eq.mp hi with h | rfl
          · exact h3.2 i h
          · exact z0 v hs
theorem rankF_cnt {w : Nat} {rows : List (List Rat)} (hl : ∀ x ∈ rows, x.length = w) : rankF w w 0 rows = cnt (Span (rowsS rows)) w := by
  have := rank_count (V := Span (rowsS rows)) w 0 rows hl (fun x _ i hi => absurd hi (Nat.not_lt_zero _)) fun v => ⟨fun h => h.1, fun h => ⟨h, fun i hi => absurd hi (Nat.not_lt_zero _)⟩⟩
  have e : cnt (Span (rowsS rows)) 0 = 0 := rfl
  rw [e] at this
  simpa using this
/-- one more row leaves the rank if and only if it lies in the span -/
theorem rankF_iff {w : Nat} {rows : List (List Rat)} {u : List Rat} (hl : ∀ x ∈ rows, x.length = w) (hu : u.length = w) :
    rankF w w 0 (rows ++ [u]) = rankF w w 0 rows ↔ Span (rowsS rows) (gD u) := by
  rw [rankF_cnt hl, rankF_cnt (rows := rows ++ [u]) fun x hx => by
    rcases List.mem_append.mp hx with h | h
    · exact hl x h
    · rw [List.mem_singleton.mp h]; exact hu]
  have : rowsS (rows ++ [u]) = fun r => rowsS rows r ∨ r = gD u := by
    funext r
    refine propext ⟨fun ⟨x, hx, e⟩ => ?_, fun h => ?_⟩
    · rcases List.mem_append.mp hx with h | h
      · exact .inl ⟨x, h, e⟩
      · rw [List.mem_singleton.mp h] at e; exact .inr e
    · rcases h with ⟨x, hx, e⟩ | e
      · exact ⟨x, List.mem_append_left _ hx, e⟩
      · exact ⟨u, by simp, e⟩
  rw [this]
  exact cnt_iff (fun r ⟨x, hx, e⟩ i hi => by rw [e]; exact gD_past (by rw [hl x hx]; exact hi)) fun i hi => gD_past (by omega)
end MP

/-! what settle keeps: reduced rows, their sizes, their spans. -/
namespace MP
def dot : Nat → Vec → Vec → Rat
  | 0, _, _ => 0
  | w + 1, x, p => dot w x p + x w * p w
theorem dot_sub (p x y : Vec) (f : Rat) : ∀ w, dot w (fun i => x i - f * y i) p = dot w x p - f * dot w y p
  | 0 => by show (0 : Rat) = 0 - f * 0; grind
  | w + 1 => by
    show dot w (fun i => x i - f * y i) p + (x w - f * y w) * p w = dot w x p + x w * p w - f * (dot w y p + y w * p w)
    rw [dot_sub p x y f w]; grind
theorem dot_div (p x : Vec) (q : Rat) : ∀ w, dot w (fun i => x i / q) p = dot w x p / q
  | 0 => by show (0 : Rat) = 0 / q; grind
  | w + 1 => by
    show dot w (fun i => x i / q) p + x w / q * p w = (dot w x p + x w * p w) / q
    rw [dot_div p x q w]; simp only [Rat.div_def]; grind
theorem dot_zero (p x : Vec) (h : ∀ i, x i = 0) : ∀ w, dot w x p = 0
  | 0 => rfl
  | w + 1 => by
    show dot w x p + x w * p w = 0
    rw [dot_zero p x h w, h w]; grind
/-- q has a numerator up to M over D -/
def In (D M : Nat) (q : Rat) : Prop := ∃ n : Int, q * ((D : Int) : Rat) = n ∧ n.natAbs ≤ M
theorem In.zero (D M : Nat) : In D M 0 := ⟨0, by grind, by simp⟩
theorem In.mono {D M N : Nat} {q : Rat} (h : In D M q) (l : M ≤ N) : In D N q := by
  obtain ⟨n, e, b⟩ := h
  exact ⟨n, e, by omega⟩
theorem In.scale {D M k : Nat} {q : Rat} (h : In D M q) : In (k * D) (k * M) q := by
  obtain ⟨n, e, b⟩ := h
  refine ⟨k * n, ?_, ?_⟩
  · have : (((k * D : Nat) : Int) : Rat) = ((k : Int) : Rat) * ((D : Int) : Rat) := by rw [← Rat.intCast_mul]; rfl
    rw [this, Rat.intCast_mul, ← e]; grind
  · rw [Int.natAbs_mul]; exact Nat.mul_le_mul_left _ b
theorem In.mul {D M E N : Nat} {a b : Rat} (h : In D M a) (h' : In E N b) : In (D * E) (M * N) (a * b) := by
  obtain ⟨n, e, l⟩ := h
  obtain ⟨n', e', l'⟩ := h'
  refine ⟨n * n', ?_, ?_⟩
  · have : (((D * E : Nat) : Int) : Rat) = ((D : Int) : Rat) * ((E : Int) : Rat) := by rw [← Rat.intCast_mul]; rfl
    rw [this, Rat.intCast_mul, ← e, ← e']; grind
  · rw [Int.natAbs_mul]; exact Nat.mul_le_mul l l'
theorem In.sub {D M N : Nat} {a b : Rat} (h : In D M a) (h' : In D N b) : In D (M + N) (a - b) := by
  obtain ⟨n, e, l⟩ := h
  obtain ⟨n', e', l'⟩ := h'
  refine ⟨n - n', ?_, by omega⟩
  rw [Rat.intCast_sub, ← e, ← e']; grind
theorem In.sz {D M k : Nat} {q : Rat} (h : In D M q) (h0 : 0 < D) (hD : D < 2 ^ k) (hM : M < 2 ^ k) : Sz k q := by
  obtain ⟨n, e, l⟩ := h
  refine Sz.of (n := n) (d := (D : Int)) (by omega) e ?_ ?_
  · exact Nat.lt_of_le_of_lt l hM
  · show (D : Int).natAbs < 2 ^ k
    simpa using hD
theorem gD_subV {f : Rat} {x y : List Rat} (h : y.length = x.length) (k : Nat) : gD (subV f x y) k = gD x k - f * gD y k := by
  by_cases hk : k < x.length
  · exact gD_range hk
  · rw [gD_past (c := subV f x y) (i := k) (by simp [subV]; omega), gD_past (c := x) (i := k) (by omega), gD_past (c := y) (i := k) (by omega)]; grind
theorem gD_map_div {q : Rat} {x : List Rat} (k : Nat) : gD (x.map (· / q)) k = gD x k / q := by
  by_cases hk : k < x.length
  · rw [gD_lt (by simpa using hk), gD_lt hk]; simp
  · rw [gD_past (c := x.map (· / q)) (i := k) (by simp; omega), gD_past (c := x) (i := k) (by omega)]; simp only [Rat.div_def]; grind
/-- a row of good shape, its parts over D up to N -/
structure Fit (w n : Nat) (p : Vec) (D N : Nat) (o : Row) : Prop where
  lc : o.c.length = w
  lp : o.p.length = n
  dot : dot w (gD o.c) p = o.b
  ic : ∀ k, In D N (gD o.c k)
  ib : In D N o.b
  ip : ∀ k, In D N (gD o.p k)
theorem Fit.sz {w n D N k : Nat} {p : Vec} {o : Row} (h : Fit w n p D N o) (h0 : 0 < D) (hD : D < 2 ^ k) (hN : N < 2 ^ k) : RSz w n k o :=
  ⟨h.lc, h.lp, fun j _ => (h.ic j).sz h0 hD hN, h.ib.sz h0 hD hN, fun j _ => (h.ip j).sz h0 hD hN⟩
theorem Fit.mono {w n D N M : Nat} {p : Vec} {o : Row} (h : Fit w n p D N o) (l : N ≤ M) : Fit w n p D M o :=
  ⟨h.lc, h.lp, h.dot, fun k => (h.ic k).mono l, h.ib.mono l, fun k => (h.ip k).mono l⟩
theorem Fit.scale {w n D N k : Nat} {p : Vec} {o : Row} (h : Fit w n p D N o) : Fit w n p (k * D) (k * N) o :=
  ⟨h.lc, h.lp, h.dot, fun j => (h.ic j).scale, h.ib.scale, fun j => (h.ip j).scale⟩
def Mon (o : Row) : Prop := ∃ l, lead o.c = some l ∧ gD o.c l = 1
def Rel (a b : Row) : Prop := ∀ la lb, lead a.c = some la → lead b.c = some lb → gD a.c lb = 0 ∧ gD b.c la = 0
def rowsC (os : List Row) : Vec → Prop := fun v => ∃ o ∈ os, v = gD o.c
theorem taken_fit {w n d D M N X : Nat} {p : Vec} {r o : Row} {f : Rat} (hr : Fit w n p (d * D) X r) (ho : Fit w n p D N o) (hf : In d M f) : Fit w n p (d * D) (X + M * N) (taken r f o) := by
  have e1 : o.c.length = r.c.length := by rw [ho.lc, hr.lc]
  have e2 : o.p.length = r.p.length := by rw [ho.lp, hr.lp]
  refine ⟨?_, ?_, ?_, fun k => ?_, ?_, fun k => ?_⟩
  · show (subV f r.c o.c).length = w; simp [subV, hr.lc]
  · show (subV f r.p o.p).length = n; simp [subV, hr.lp]
  · show MP.dot w (gD (subV f r.c o.c)) p = r.b - f * o.b
    rw [funext (gD_subV e1), dot_sub, hr.dot, ho.dot]
  · show In _ _ (gD (subV f r.c o.c) k)
    rw [gD_subV e1]; exact (hr.ic k).sub (hf.mul (ho.ic k))
  · exact hr.ib.sub (hf.mul ho.ib)
  · show In _ _ (gD (subV f r.p o.p) k)
    rw [gD_subV e2]; exact (hr.ip k).sub (hf.mul (ho.ip k))
/-- what reduced does -/
structure RedOk (w n : Nat) (p : Vec) (E Y : Nat) (os : List Row) (r : Row) : Prop where
  fit : Fit w n p E Y (redR os r)
  zero : ∀ o ∈ os, ∀ l, lead o.c = some l → gD (redR os r).c l = 0
  span : Span (rowsC os) fun i => gD r.c i - gD (redR os r).c i
  keep : ∀ l, gD r.c l = 0 → (∀ o ∈ os, gD o.c l = 0) → gD (redR os r).c l = 0
  ok : OkRed w n os r
theorem red_ok {w n d D M N : Nat} {p : Vec} (h0 : 0 < d * D) (hD0 : 0 < D) (hd : d * D < 2 ^ 1200) (hD : D < 2 ^ 1200) (hN : N < 2 ^ 1200) : ∀ (os : List Row) (r : Row) (X : Nat), (∀ o ∈ os, Fit w n p D N o ∧ Mon o) → os.Pairwise Rel →
    Fit w n p (d * D) X r → (∀ o ∈ os, ∀ l, lead o.c = some l → In d M (gD r.c l)) → X + os.length * (M * N) < 2 ^ 1200 → RedOk w n p (d * D) (X + os.length * (M * N)) os r := by
  intro os
  induction os with
  | nil =>
    intro r X _ _ hr _ _
    exact ⟨hr.mono (Nat.le_add_right _ _), fun o ho => absurd ho (by simp), Span.zero.cast fun i => by show (0 : Rat) = gD r.c i - gD r.c i; grind, fun l h _ => h, trivial⟩
  | cons o os ih =>
    intro r X hos hp hr hin hX
    obtain ⟨ho, l, hl, h1⟩ := hos o (List.mem_cons_self ..)
    obtain ⟨hp1, hp2⟩ := List.pairwise_cons.mp hp
    have e1 : o.c.length = r.c.length := by rw [ho.lc, hr.lc]
    have hf := hin o (List.mem_cons_self ..) l hl
    have ht := taken_fit hr ho hf
    have el : (o :: os).length * (M * N) = M * N + os.length * (M * N) := by rw [List.length_cons, Nat.succ_mul, Nat.add_comm]
    have eX : X + (o :: os).length * (M * N) = X + M * N + os.length * (M * N) := by rw [el]; omega
    have er : redR (o :: os) r = redR os (taken r (gD r.c l) o) := by
      show redR os (taken r (gD r.c ((lead o.c).getD 0)) o) = _
      rw [hl]; rfl
    have hc : ∀ k, gD (taken r (gD r.c l) o).c k = gD r.c k - gD r.c l * gD o.c k := gD_subV e1
    have hlt : ∀ o' ∈ os, ∀ l', lead o'.c = some l' → gD (taken r (gD r.c l) o).c l' = gD r.c l' := by
      intro o' ho' l' hl'
      rw [hc, (hp1 o' ho' l l' hl hl').1]; grind
    have H := ih (taken r (gD r.c l) o) (X + M * N) (fun o' h => hos o' (List.mem_cons_of_mem _ h)) hp2 ht (fun o' ho' l' hl' => by
      rw [hlt o' ho' l' hl']; exact hin o' (List.mem_cons_of_mem _ ho') l' hl') (by rw [← eX]; exact hX)
    rw [eX]
    have z : gD (taken r (gD r.c l) o).c l = 0 := by rw [hc, h1]; grind
    refine ⟨er ▸ H.fit, ?_, ?_, ?_, ?_⟩
    · rw [er]
      intro o' ho' l' hl'
      rcases List.mem_cons.mp ho' with rfl | ho'
      · rw [hl] at hl'; cases hl'
        refine H.keep l z fun o'' ho'' => ?_
        obtain ⟨_, l2, hl2, _⟩ := hos o'' (List.mem_cons_of_mem _ ho'')
        exact (hp1 o'' ho'' l l2 hl hl2).2
      · exact H.zero o' ho' l' hl'
    · rw [er]
      have s1 : Span (rowsC (o :: os)) fun i => gD (taken r (gD r.c l) o).c i - gD (redR os (taken r (gD r.c l) o)).c i := H.span.le fun v ⟨q, hq, e⟩ => .of ⟨q, List.mem_cons_of_mem _ hq, e⟩
      exact (s1.add ((Span.of (S := rowsC (o :: os)) ⟨o, List.mem_cons_self .., rfl⟩).smul (gD r.c l))).cast fun i => by rw [hc]; grind
    · rw [er]
      intro k hk hz
      refine H.keep k ?_ fun o' ho' => hz o' (List.mem_cons_of_mem _ ho')
      rw [hc, hk, hz o (List.mem_cons_self ..)]; grind
    · refine ⟨hr.sz h0 hd (by omega), ho.sz hD0 hD hN, ⟨l, hl⟩, ?_⟩
      rw [hl]; exact H.ok
end MP

/-! what joined makes of the kept rows and a new one. -/
namespace MP
theorem div_self' {a : Rat} (h : a ≠ 0) : a / a = 1 := by rw [Rat.div_def]; exact Rat.mul_inv_cancel a h
theorem lead_of {c : List Rat} {l : Nat} (h : gD c l ≠ 0) (hz : ∀ k, k < l → gD c k = 0) : lead c = some l := by
  cases hl : lead c with
  | none => exact absurd (lead_none hl l) h
  | some m =>
    obtain ⟨h1, h2, h3⟩ := lead_some hl
    rcases Nat.lt_trichotomy m l with h' | h' | h'
    · exact absurd (hz m h') h2
    · rw [h']
    · exact absurd (h3 l h') h
theorem In.divd {D M : Nat} {q a : Rat} {n : Int} (h : In D M q) (hD : 0 < D) (ha : a * ((D : Int) : Rat) = n) (h0 : a ≠ 0) : In n.natAbs M (q / a) := by
  obtain ⟨m, e, l⟩ := h
  have hDr : ((D : Int) : Rat) ≠ 0 := icast_ne (by omega)
  have key : q / a * (n : Rat) = m := by
    rw [← ha, ← e, Rat.div_def]
    have := Rat.mul_inv_cancel a h0
    grind
  by_cases hn : 0 ≤ n
  · refine ⟨m, ?_, l⟩
    have : ((n.natAbs : Nat) : Int) = n := by omega
    rw [this]; exact key
  · refine ⟨-m, ?_, by omega⟩
    have : ((n.natAbs : Nat) : Int) = -n := by omega
    rw [this, Rat.intCast_neg, Rat.intCast_neg, ← key]; grind
theorem divd_fit {w n D M : Nat} {p : Vec} {o : Row} {a : Rat} {m : Int} (h : Fit w n p D M o) (hD : 0 < D) (ha : a * ((D : Int) : Rat) = m) (h0 : a ≠ 0) : Fit w n p m.natAbs M (divd o a) := by
  refine ⟨?_, ?_, ?_, fun k => ?_, ?_, fun k => ?_⟩
  · show (o.c.map (· / a)).length = w; simp [h.lc]
  · show (o.p.map (· / a)).length = n; simp [h.lp]
  · show MP.dot w (gD (o.c.map (· / a))) p = o.b / a
    rw [funext gD_map_div, dot_div, h.dot]
  · show In _ _ (gD (o.c.map (· / a)) k)
    rw [gD_map_div]; exact (h.ic k).divd hD ha h0
  · exact h.ib.divd hD ha h0
  · show In _ _ (gD (o.p.map (· / a)) k)
    rw [gD_map_div]; exact (h.ip k).divd hD ha h0
theorem join_eq {kept : List Row} {R : Row} {l : Nat} (hl : lead R.c = some l) : joinR kept R = kept.map (fun o => taken o (gD o.c l) (divd R (gD R.c l))) ++ [divd R (gD R.c l)] := by
  unfold joinR; rw [hl]; rfl
theorem join_ok {w n D N E Y : Nat} {p : Vec} {kept : List Row} {R : Row} {l : Nat} (hk : ∀ o ∈ kept, Fit w n p D N o ∧ Mon o) (hp : kept.Pairwise Rel) (hR : Fit w n p E Y R) (hE : 0 < E) (hD : 0 < D)
    (hz : ∀ o ∈ kept, ∀ k, lead o.c = some k → gD R.c k = 0) (hl : lead R.c = some l) :
    ∃ D', 0 < D' ∧ D' ≤ D * Y ∧ (∀ o ∈ joinR kept R, Fit w n p D' (D * Y + 2 * (N * Y)) o ∧ Mon o) ∧ (joinR kept R).Pairwise Rel ∧
      Fit w n p D' (D * Y) (divd R (gD R.c l)) ∧ ∀ v, Span (rowsC (joinR kept R)) v ↔ Span (fun r => rowsC kept r ∨ r = gD R.c) v := by
  obtain ⟨_, ha, hlz⟩ := lead_some hl
  obtain ⟨m, hm, hmY⟩ := hR.ic l
  have hm0 : m ≠ 0 := by
    intro h
    rw [h] at hm
    rcases Rat.mul_eq_zero.mp hm with h' | h'
    · exact ha h'
    · exact icast_ne (by omega) h'
  have hr' := divd_fit hR hE hm ha
  have hc' : ∀ k, gD (divd R (gD R.c l)).c k = gD R.c k / gD R.c l := fun k => gD_map_div k
  have hl' : lead (divd R (gD R.c l)).c = some l := by
    refine lead_of ?_ fun k hk => ?_
    · rw [hc', div_self' ha]; decide
    · rw [hc', hlz k hk, Rat.div_def]; grind
  have h1' : gD (divd R (gD R.c l)).c l = 1 := by rw [hc', div_self' ha]
  generalize hr : divd R (gD R.c l) = r' at *
  have hzr : ∀ o ∈ kept, ∀ k, lead o.c = some k → gD r'.c k = 0 := fun o ho k hk => by rw [hc', hz o ho k hk, Rat.div_def]; grind
  have hlo : ∀ o ∈ kept, o.c.length = w := fun o ho => (hk o ho).1.lc
  have hco : ∀ o ∈ kept, ∀ k, gD (taken o (gD o.c l) r').c k = gD o.c k - gD o.c l * gD r'.c k := fun o ho k => gD_subV (by rw [hlo o ho, hr'.lc]) k
  have hleado : ∀ o ∈ kept, ∀ k, lead o.c = some k → lead (taken o (gD o.c l) r').c = some k ∧ gD (taken o (gD o.c l) r').c k = gD o.c k := by
    intro o ho k hk'
    obtain ⟨_, h2, h3⟩ := lead_some hk'
    have e : gD (taken o (gD o.c l) r').c k = gD o.c k := by rw [hco o ho, hzr o ho k hk']; grind
    refine ⟨lead_of (by rw [e]; exact h2) fun j hj => ?_, e⟩
    rw [hco o ho, h3 j hj]
    by_cases hlk : l < k
    · rw [h3 l hlk]; grind
    · have : gD R.c j = 0 := hlz j (by omega)
      rw [hc', this, Rat.div_def]; grind
  have hat : ∀ o ∈ kept, gD (taken o (gD o.c l) r').c l = 0 := fun o ho => by rw [hco o ho, h1']; grind
  refine ⟨m.natAbs * D, Nat.mul_pos (by omega) hD, ?_, ?_, ?_, ?_, ?_⟩
  · rw [Nat.mul_comm]; exact Nat.mul_le_mul_left _ hmY
  · rw [join_eq hl, hr]
    intro o ho
    rcases List.mem_append.mp ho with ho | ho
    · obtain ⟨q, hq, rfl⟩ := List.mem_map.mp ho
      obtain ⟨hf, k, hk1, hk2⟩ := hk q hq
      refine ⟨?_, k, (hleado q hq k hk1).1, by rw [(hleado q hq k hk1).2, hk2]⟩
      have f1 := hf.scale (k := m.natAbs)
      rw [Nat.mul_comm m.natAbs D] at f1 ⊢
      have t := taken_fit f1 hr' (hf.ic l)
      have b1 : m.natAbs * N ≤ Y * N := Nat.mul_le_mul_right _ hmY
      rw [Nat.mul_comm Y N] at b1
      exact t.mono (by omega)
    · rw [List.mem_singleton.mp ho]
      refine ⟨?_, l, hl', h1'⟩
      have := hr'.scale (k := D)
      rw [Nat.mul_comm m.natAbs D]
      exact this.mono (by omega)
  · rw [join_eq hl, hr, List.pairwise_append]
    refine ⟨?_, List.pairwise_singleton .., ?_⟩
    · rw [List.pairwise_map]
      refine List.Pairwise.imp_of_mem ?_ hp
      intro a b hma hmb hab la lb h1 h2
      obtain ⟨_, ka, hka, _⟩ := hk a hma
      obtain ⟨_, kb, hkb, _⟩ := hk b hmb
      rw [(hleado a hma ka hka).1] at h1; cases h1
      rw [(hleado b hmb kb hkb).1] at h2; cases h2
      have h3 := hab _ _ hka hkb
      constructor
      · rw [hco a hma, h3.1, hzr b hmb _ hkb]; grind
      · rw [hco b hmb, h3.2, hzr a hma _ hka]; grind
    · intro a ha' b hb la lb h1 h2
      obtain ⟨q, hq, rfl⟩ := List.mem_map.mp ha'
      rw [List.mem_singleton.mp hb] at h2 ⊢
      obtain ⟨_, k, hk1, _⟩ := hk q hq
      rw [hl'] at h2; cases h2
      rw [(hleado q hq k hk1).1] at h1; cases h1
      exact ⟨hat q hq, hzr q hq _ hk1⟩
  · have := hr'.scale (k := D)
    rw [Nat.mul_comm m.natAbs D]
    exact this
  · intro v
    have hRr : ∀ i, gD R.c i = gD R.c l * gD r'.c i := fun i => by
      rw [hc', Rat.div_def]
      have := Rat.mul_inv_cancel _ ha
      grind
    rw [join_eq hl, hr]
    constructor
    · refine fun h => h.le fun q ⟨o, ho, e⟩ => ?_
      subst e
      have sr : Span (fun r => rowsC kept r ∨ r = gD R.c) (gD r'.c) := ((Span.of (S := fun r => rowsC kept r ∨ r = gD R.c) (.inr rfl)).smul (gD R.c l)⁻¹).cast fun i => by rw [hc', Rat.div_def]; grind
      rcases List.mem_append.mp ho with ho | ho
      · obtain ⟨x, hx, rfl⟩ := List.mem_map.mp ho
        exact ((Span.of (S := fun r => rowsC kept r ∨ r = gD R.c) (.inl ⟨x, hx, rfl⟩)).sub (gD x.c l) sr).cast fun i => by rw [hco x hx]
      · rw [List.mem_singleton.mp ho]; exact sr
    · refine fun h => h.le fun q hq => ?_
      have sr : Span (rowsC (kept.map (fun o => taken o (gD o.c l) r') ++ [r'])) (gD r'.c) := .of ⟨r', by simp, rfl⟩
      rcases hq with ⟨o, ho, e⟩ | e
      · subst e
        have so : Span (rowsC (kept.map (fun o => taken o (gD o.c l) r') ++ [r'])) (gD (taken o (gD o.c l) r').c) := .of ⟨_, List.mem_append_left _ (List.mem_map_of_mem ho), rfl⟩
        exact (so.add (sr.smul (gD o.c l))).cast fun i => by rw [hco o ho]; grind
      · subst e
        exact (sr.smul (gD R.c l)).cast fun i => (hRr i).symm
end MP

/-! the turns of settle over rows that a point answers. -/
namespace MP
def eB : Nat → Nat
  | 0 => 0
  | k + 1 => 2 * eB k + 15
theorem eB_le : ∀ k, k ≤ 6 → eB k ≤ 945 := by decide
theorem eB_le5 : ∀ k, k < 6 → eB k ≤ 465 := by decide
def rowsE (es : List Eqn) : Vec → Prop := fun v => ∃ e ∈ es, v = gD e.c
structure Eqs (w : Nat) (p : Vec) (rows : List Eqn) : Prop where
  six : rows.length ≤ 6
  lc : ∀ e ∈ rows, e.c.length = w
  dot : ∀ e ∈ rows, dot w (gD e.c) p = e.b
  ic : ∀ e ∈ rows, ∀ k, In 12 1080 (gD e.c k)
  ib : ∀ e ∈ rows, In 12 1080 e.b
structure InvAt (w n : Nat) (p : Vec) (rows : List Eqn) (k : Nat) (kept : List Row) (D N : Nat) : Prop where
  len : kept.length ≤ k
  pos : 0 < D
  d : D ≤ 2 ^ eB k
  nn : N ≤ 2 ^ eB k
  fit : ∀ o ∈ kept, Fit w n p D N o ∧ Mon o
  rel : kept.Pairwise Rel
  span : ∀ v, Span (rowsC kept) v ↔ Span (rowsE (rows.take k)) v
def Inv (w n : Nat) (p : Vec) (rows : List Eqn) (k : Nat) (kept : List Row) : Prop := ∃ D N, InvAt w n p rows k kept D N
theorem inv_zero (w n : Nat) (p : Vec) (rows : List Eqn) : Inv w n p rows 0 [] :=
  ⟨1, 1, ⟨Nat.le_refl _, by decide, by decide, by decide, fun o ho => absurd ho (by simp), List.Pairwise.nil, fun v => ⟨fun h => h.le fun r ⟨o, ho, _⟩ => absurd ho (by simp), fun h => h.le fun r ⟨o, ho, _⟩ => absurd ho (by simp)⟩⟩⟩
theorem In.one : In 12 1080 1 := ⟨12, by grind, by decide⟩
theorem unit_in (n k j : Nat) : In 12 1080 (gD (unitR n k) j) := by
  by_cases h : j < n
  · unfold unitR
    rw [gD_range h]
    split
    · exact .one
    · exact .zero _ _
  · rw [gD_past (by simp [unitR]; omega)]; exact .zero _ _
theorem pow_lt_1200 {B x c i : Nat} (hB : B ≤ 2 ^ i) (hx : x ≤ 2 ^ c * B) (h : c + i < 1200) : x < 2 ^ 1200 := by
  have h1 : 2 ^ c * B ≤ 2 ^ c * 2 ^ i := Nat.mul_le_mul_left _ hB
  rw [← Nat.pow_add] at h1
  have h2 : 2 ^ (c + i) < 2 ^ 1200 := Nat.pow_lt_pow_right (by decide) h
  omega
section
variable {w : Nat} {p : Vec} {rows : List Eqn}
theorem turn_red (H : Eqs w p rows) {k D N : Nat} {kept : List Row} {e : Eqn} (he : rows[k]? = some e) (hI : InvAt w rows.length p rows k kept D N) :
    RedOk w rows.length p (12 * D) (D * 1080 + kept.length * (1080 * N)) kept ⟨e.c, e.b, unitR rows.length k⟩ ∧ D * 1080 + kept.length * (1080 * N) ≤ 8192 * 2 ^ eB k ∧ D * 1080 + kept.length * (1080 * N) < 2 ^ 1200 ∧ 12 * D < 2 ^ 1200 := by
  obtain ⟨hk, hkl⟩ := List.getElem?_eq_some_iff.mp he
  have hk6 : k < 6 := Nat.lt_of_lt_of_le hk H.six
  have hem : e ∈ rows := List.mem_of_getElem? he
  have b5 := eB_le5 k hk6
  have hP : 2 ^ eB k ≤ 2 ^ 465 := Nat.pow_le_pow_right (by decide) b5
  have hd := hI.d
  have hn := hI.nn
  have hl : kept.length ≤ 5 := by have := hI.len; omega
  have hm : kept.length * (1080 * N) ≤ 5 * (1080 * 2 ^ eB k) := Nat.mul_le_mul hl (Nat.mul_le_mul_left _ hn)
  generalize hB : 2 ^ eB k = B at *
  have hY : D * 1080 + kept.length * (1080 * N) ≤ 8192 * B := by omega
  have hY' : D * 1080 + kept.length * (1080 * N) < 2 ^ 1200 := pow_lt_1200 (c := 13) hP (by simpa using hY) (by decide)
  have h12 : 12 * D < 2 ^ 1200 := pow_lt_1200 (c := 4) hP (by show 12 * D ≤ 16 * B; omega) (by decide)
  have hDD : D < 2 ^ 1200 := by have := hI.pos; omega
  have hNN : N < 2 ^ 1200 := pow_lt_1200 (c := 0) hP (by simpa using hn) (by decide)
  refine ⟨red_ok (d := 12) (M := 1080) (by have := hI.pos; omega) hI.pos h12 hDD hNN kept _ (D * 1080) hI.fit hI.rel ?_ (fun o _ l _ => H.ic e hem l) hY', hY, hY', h12⟩
  have f : Fit w rows.length p 12 1080 ⟨e.c, e.b, unitR rows.length k⟩ := ⟨H.lc e hem, by simp [unitR], H.dot e hem, H.ic e hem, H.ib e hem, unit_in _ _⟩
  have := f.scale (k := D)
  rwa [Nat.mul_comm D 12] at this
theorem take_span (H : Eqs w p rows) {k : Nat} {e : Eqn} (he : rows[k]? = some e) (v : Vec) : Span (rowsE (rows.take (k + 1))) v ↔ Span (fun r => rowsE (rows.take k) r ∨ r = gD e.c) v := by
  have : rowsE (rows.take (k + 1)) = fun r => rowsE (rows.take k) r ∨ r = gD e.c := by
    funext r
    refine propext ⟨fun ⟨x, hx, e'⟩ => ?_, fun h => ?_⟩
    · rw [List.take_succ, he] at hx
      rcases List.mem_append.mp hx with hx | hx
      · exact .inl ⟨x, hx, e'⟩
      · simp at hx; subst hx; exact .inr e'
    · rw [rowsE, List.take_succ, he]
      rcases h with ⟨x, hx, e'⟩ | e'
      · exact ⟨x, List.mem_append_left _ hx, e'⟩
      · exact ⟨e, by simp, e'⟩
  rw [this]
theorem turn_ok (H : Eqs w p rows) : Turn w rows.length (Inv w rows.length p rows) rows := by
  refine ⟨rfl, ?_, ?_, ?_, ?_⟩
  · rintro k kept e he ⟨D, N, hI⟩
    exact (turn_red H he hI).1.ok
  · rintro k kept e he ⟨D, N, hI⟩
    obtain ⟨h1, _, h2, h3⟩ := turn_red H he hI
    exact h1.fit.sz (by have := hI.pos; omega) h3 h2
  · rintro k kept e l he ⟨D, N, hI⟩ hl
    obtain ⟨hk, hkl⟩ := List.getElem?_eq_some_iff.mp he
    have hk6 : k < 6 := Nat.lt_of_lt_of_le hk H.six
    obtain ⟨h1, hY, h2, h3⟩ := turn_red H he hI
    obtain ⟨D', p1, p2, p3, p4, p5, p6⟩ := join_ok hI.fit hI.rel h1.fit (by have := hI.pos; omega) hI.pos h1.zero hl
    generalize D * 1080 + kept.length * (1080 * N) = Y at *
    have q1 : D * Y ≤ 2 ^ eB k * (8192 * 2 ^ eB k) := Nat.mul_le_mul hI.d hY
    have q2 : N * Y ≤ 2 ^ eB k * (8192 * 2 ^ eB k) := Nat.mul_le_mul hI.nn hY
    have q3 : 2 ^ eB k * (8192 * 2 ^ eB k) * 4 = 2 ^ eB (k + 1) := by
      show _ = 2 ^ (2 * eB k + 15)
      rw [Nat.pow_add, Nat.two_mul, Nat.pow_add, Nat.mul_left_comm, Nat.mul_comm 8192, Nat.mul_assoc]
    have q4 : 2 ^ eB (k + 1) ≤ 2 ^ 945 := Nat.pow_le_pow_right (by decide) (eB_le (k + 1) (by omega))
    generalize 2 ^ eB k * (8192 * 2 ^ eB k) = Q at *
    have b1 : D' ≤ 2 ^ eB (k + 1) := by omega
    have b2 : D * Y + 2 * (N * Y) ≤ 2 ^ eB (k + 1) := by omega
    have b3 : D' < 2 ^ 1200 := pow_lt_1200 (c := 0) q4 (by simpa using b1) (by decide)
    have b4 : D * Y < 2 ^ 1200 := pow_lt_1200 (c := 0) q4 (by rw [Nat.pow_zero, Nat.one_mul]; omega) (by decide)
    have hDD : D < 2 ^ 1200 := by have := hI.pos; omega
    have hNN : N < 2 ^ 1200 := pow_lt_1200 (c := 0) (Nat.pow_le_pow_right (by decide) (eB_le5 k hk6)) (by simpa using hI.nn) (by decide)
    refine ⟨p5.sz p1 b3 b4, fun o ho => (hI.fit o ho).1.sz hI.pos hDD hNN, ?_, D', D * Y + 2 * (N * Y), ?_⟩
    · have := hI.len
      have : (6 : Nat) < line := by decide
      omega
    · refine ⟨?_, p1, b1, b2, p3, p4, fun v => ?_⟩
      · rw [join_eq hl]; simp; exact hI.len
      · rw [p6 v, take_span H he v]
        have sR : Span (rowsC kept) (fun i => gD e.c i - gD (redR kept ⟨e.c, e.b, unitR rows.length k⟩).c i) := h1.span
        constructor
        · refine fun h => h.le fun r hr => ?_
          have up : ∀ u, Span (rowsC kept) u → Span (fun r => rowsE (rows.take k) r ∨ r = gD e.c) u := fun u hu => ((hI.span u).mp hu).le fun r hr => .of (.inl hr)
          rcases hr with hr | hr
          · exact up r (.of hr)
          · subst hr
            exact ((Span.of (S := fun r => rowsE (rows.take k) r ∨ r = gD e.c) (.inr rfl)).sub 1 (up _ sR)).cast fun i => by grind
        · refine fun h => h.le fun r hr => ?_
          have up : ∀ u, Span (rowsC kept) u → Span (fun r => rowsC kept r ∨ r = gD (redR kept ⟨e.c, e.b, unitR rows.length k⟩).c) u := fun u hu => hu.le fun r hr => .of (.inl hr)
          rcases hr with hr | hr
          · exact up r ((hI.span r).mpr (.of hr))
          · subst hr
            exact ((up _ sR).add (.of (.inr rfl))).cast fun i => by grind
  · rintro k kept e he ⟨D, N, hI⟩ hl
    obtain ⟨hk, hkl⟩ := List.getElem?_eq_some_iff.mp he
    obtain ⟨h1, hY, h2, h3⟩ := turn_red H he hI
    have hz := lead_none hl
    refine ⟨?_, D, N, ?_⟩
    · rw [← h1.fit.dot]; exact dot_zero _ _ hz _
    · have e1 : eB k ≤ eB (k + 1) := by show eB k ≤ 2 * eB k + 15; omega
      have e2 : 2 ^ eB k ≤ 2 ^ eB (k + 1) := Nat.pow_le_pow_right (by decide) e1
      refine ⟨by have := hI.len; omega, hI.pos, Nat.le_trans hI.d e2, Nat.le_trans hI.nn e2, hI.fit, hI.rel, fun v => ?_⟩
      rw [hI.span v, take_span H he v]
      refine ⟨fun h => h.le fun r hr => .of (.inl hr), fun h => h.le fun r hr => ?_⟩
      rcases hr with hr | hr
      · exact .of hr
      · subst hr
        refine (hI.span _).mp (h1.span.cast fun i => ?_)
        rw [hz i]; grind
end
end MP

/-! worth_of finds a part exactly when its unit lies in the span. -/
namespace MP
def ld (o : Row) : Nat := (lead o.c).getD 0
def comb : List Row → Vec → Nat → Rat
  | [], _, _ => 0
  | o :: os, v, i => v (ld o) * gD o.c i + comb os v i
theorem comb_zero : ∀ (os : List Row) (v : Vec) (i : Nat), (∀ o ∈ os, v (ld o) = 0) → comb os v i = 0
  | [], _, _, _ => rfl
  | o :: os, v, i, h => by
    show v (ld o) * gD o.c i + comb os v i = 0
    rw [h o (List.mem_cons_self ..), comb_zero os v i fun q hq => h q (List.mem_cons_of_mem _ hq)]; grind
theorem comb_lin (a : Rat) (u r : Vec) (i : Nat) : ∀ os : List Row, comb os (fun i => u i + a * r i) i = comb os u i + a * comb os r i
  | [] => by show (0 : Rat) = 0 + a * 0; grind
  | o :: os => by
    show (u (ld o) + a * r (ld o)) * gD o.c i + comb os _ i = u (ld o) * gD o.c i + comb os u i + a * (r (ld o) * gD o.c i + comb os r i)
    rw [comb_lin a u r i os]; grind
theorem mon_ld {o : Row} (h : Mon o) : lead o.c = some (ld o) ∧ gD o.c (ld o) = 1 := by
  obtain ⟨l, h1, h2⟩ := h
  have : ld o = l := by unfold ld; rw [h1]; rfl
  rw [this]; exact ⟨h1, h2⟩
theorem comb_row {i : Nat} : ∀ (os : List Row), (∀ o ∈ os, Mon o) → os.Pairwise Rel → ∀ o ∈ os, comb os (gD o.c) i = gD o.c i
  | [], _, _, o, ho => absurd ho (by simp)
  | q :: os, hm, hp, o, ho => by
    obtain ⟨hp1, hp2⟩ := List.pairwise_cons.mp hp
    have hq := mon_ld (hm q (List.mem_cons_self ..))
    show gD o.c (ld q) * gD q.c i + comb os (gD o.c) i = gD o.c i
    rcases List.mem_cons.mp ho with rfl | ho
    · rw [hq.2, comb_zero os _ i fun x hx => ?_]
      · grind
      · exact (hp1 x hx _ _ hq.1 (mon_ld (hm x (List.mem_cons_of_mem _ hx))).1).1
    · rw [(hp1 o ho _ _ hq.1 (mon_ld (hm o (List.mem_cons_of_mem _ ho))).1).2, comb_row os (fun x hx => hm x (List.mem_cons_of_mem _ hx)) hp2 o ho]; grind
theorem comb_span {os : List Row} (hm : ∀ o ∈ os, Mon o) (hp : os.Pairwise Rel) {v : Vec} (hv : Span (rowsC os) v) : ∀ i, comb os v i = v i := by
  refine hv.lin (P := fun v => ∀ i, comb os v i = v i) (fun i => comb_zero os _ i fun _ _ => rfl) fun u r a hu hr i => ?_
  obtain ⟨o, ho, rfl⟩ := hr
  rw [comb_lin, hu i, comb_row os hm hp o ho]
theorem rel_all : ∀ {os : List Row}, (∀ o ∈ os, Mon o) → os.Pairwise Rel → ∀ a ∈ os, ∀ b ∈ os, gD a.c (ld b) = if ld b = ld a then 1 else 0
  | [], _, _, a, ha, _, _ => absurd ha (by simp)
  | q :: os, hm, hp, a, ha, b, hb => by
    obtain ⟨hp1, hp2⟩ := List.pairwise_cons.mp hp
    have hq := mon_ld (hm q (List.mem_cons_self ..))
    have step : ∀ x ∈ os, gD q.c (ld x) = 0 ∧ gD x.c (ld q) = 0 ∧ ld x ≠ ld q := fun x hx => by
      have hx' := mon_ld (hm x (List.mem_cons_of_mem _ hx))
      have := hp1 x hx _ _ hq.1 hx'.1
      refine ⟨this.1, this.2, fun e => ?_⟩
      have h1 := this.1
      rw [e, hq.2] at h1
      exact absurd h1 (by decide)
    rcases List.mem_cons.mp ha with ea | ha <;> rcases List.mem_cons.mp hb with eb | hb
    · rw [ea, eb, if_pos rfl]; exact hq.2
    · rw [ea, if_neg (step b hb).2.2]; exact (step b hb).1
    · rw [eb, if_neg fun e => (step a ha).2.2 e.symm]; exact (step a ha).2.1
    · exact rel_all (fun x hx => hm x (List.mem_cons_of_mem _ hx)) hp2 a ha b hb
theorem unit_at {w a i : Nat} (ha : a < w) : gD (unitR w a) i = if i = a then 1 else 0 := by
  by_cases h : i < w
  · exact gD_range h
  · rw [gD_past (by simp [unitR]; omega), if_neg (by omega)]
theorem filter_one {w a : Nat} (ha : a < w) : (List.range w).filter (fun k => decide (k = a)) = [a] := by
  induction w with
  | zero => omega
  | succ w ih =>
    rw [List.range_succ, List.filter_append]
    by_cases h : a = w
    · subst h
      have : (List.range a).filter (fun k => decide (k = a)) = [] := List.filter_eq_nil_iff.mpr fun k hk => by have := List.mem_range.mp hk; simp; omega
      rw [this]; simp
    · rw [ih (by omega)]
      have : ¬ w = a := fun e => h e.symm
      simp [this]
theorem unit_row {w n D N a : Nat} {p : Vec} {r : Row} (hf : Fit w n p D N r) (hm : Mon r) (h : isUnit w a r = true) : a < w ∧ (∀ i, gD r.c i = gD (unitR w a) i) := by
  unfold isUnit at h
  obtain ⟨h1, h2⟩ := (Bool.and_eq_true_iff.mp h)
  have h1 := of_decide_eq_true h1
  have h2 := of_decide_eq_true h2
  have haw : a < w := by rw [← hf.lc]; exact (lead_some h1).1
  refine ⟨haw, fun i => ?_⟩
  rw [unit_at haw]
  by_cases e : i = a
  · rw [if_pos e, e]
    obtain ⟨l, k1, k2⟩ := hm
    rw [h1] at k1; cases k1; exact k2
  · rw [if_neg e]
    by_cases hi : i < w
    · by_cases z : gD r.c i = 0
      · exact z
      · have : i ∈ (List.range w).filter (fun k => decide (gD r.c k ≠ 0)) := List.mem_filter.mpr ⟨List.mem_range.mpr hi, decide_eq_true z⟩
        rw [h2] at this
        exact absurd (List.mem_singleton.mp this) e
    · exact gD_past (by rw [hf.lc]; omega)
theorem dot_unit (p : Vec) {a : Nat} : ∀ w, dot w (fun i => if i = a then 1 else 0) p = if a < w then p a else 0
  | 0 => rfl
  | w + 1 => by
    show dot w _ p + (if w = a then 1 else 0) * p w = _
    rw [dot_unit p w]
    by_cases h : w = a
    · subst h; rw [if_neg (Nat.lt_irrefl _), if_pos rfl, if_pos (Nat.lt_succ_self _)]; grind
    · by_cases h2 : a < w
      · rw [if_pos h2, if_neg h, if_pos (by omega)]; grind
      · rw [if_neg h2, if_neg h, if_neg (by omega)]; grind
theorem worth_ok {w n D N a : Nat} {p : Vec} {kept : List Row} (hk : ∀ o ∈ kept, Fit w n p D N o ∧ Mon o) (hp : kept.Pairwise Rel) (ha : a < w) :
    (Span (rowsC kept) (gD (unitR w a)) → worthR w kept a = fr (p a)) ∧ (¬ Span (rowsC kept) (gD (unitR w a)) → worthR w kept a = .non) := by
  constructor
  · intro h
    have hm : ∀ o ∈ kept, Mon o := fun o ho => (hk o ho).2
    have hex : ∃ o ∈ kept, ld o = a := by
      refine Classical.byContradiction fun hn => ?_
      have h1 := comb_span hm hp h a
      rw [comb_zero kept _ a fun o ho => by rw [unit_at ha, if_neg fun e => hn ⟨o, ho, e⟩], unit_at ha, if_pos rfl] at h1
      exact absurd h1 (by decide)
    obtain ⟨o, ho, hlo⟩ := hex
    have hs : Span (rowsC kept) fun i => gD (unitR w a) i - 1 * gD o.c i := h.sub 1 (.of ⟨o, ho, rfl⟩)
    have hz : ∀ i, gD o.c i = gD (unitR w a) i := fun i => by
      have h1 := comb_span hm hp hs i
      rw [comb_zero kept _ i fun q hq => by
        show gD (unitR w a) (ld q) - 1 * gD o.c (ld q) = 0
        rw [unit_at ha, rel_all hm hp o ho q hq, hlo]; grind] at h1
      grind
    have hu : isUnit w a o = true := by
      have m := mon_ld (hm o ho)
      rw [hlo] at m
      unfold isUnit
      rw [m.1]
      have : (fun k => decide (gD o.c k ≠ 0)) = fun k => decide (k = a) := by
        funext k
        rw [hz k, unit_at ha]
        by_cases e : k = a
        · rw [if_pos e]; simp [e]
        · rw [if_neg e]; simp [e]
      rw [this, filter_one ha]; simp
    unfold worthR
    cases hf : kept.find? (isUnit w a) with
    | none => exact absurd hu (List.find?_eq_none.mp hf o ho)
    | some r =>
      have hr := List.mem_of_find?_eq_some hf
      have hru := List.find?_some hf
      have h1 := unit_row (hk r hr).1 (hk r hr).2 hru
      show fr r.b = fr (p a)
      rw [← (hk r hr).1.dot, funext h1.2, show gD (unitR w a) = fun i => if i = a then 1 else 0 from funext fun i => unit_at ha, dot_unit, if_pos ha]
  · intro h
    unfold worthR
    cases hf : kept.find? (isUnit w a) with
    | none => rfl
    | some r =>
      have hr := List.mem_of_find?_eq_some hf
      have hru := List.find?_some hf
      have h1 := unit_row (hk r hr).1 (hk r hr).2 hru
      exact absurd ((Span.of (S := rowsC kept) ⟨r, hr, rfl⟩).cast h1.2) h
end MP

/-! the run of the law's rank. -/
namespace MP
open PySem L2
theorem ok_frs (c : List Rat) (k : Nat) : okD (k + 2) (frs c) = true := by
  show okDs (k + 1) (c.map fr) = true
  refine okDs_of fun d hd => ?_
  obtain ⟨q, _, rfl⟩ := List.mem_map.mp hd
  exact ok_fr q k
theorem fr_zero : fr 0 = D.tup [.int 0, .int 1] := rfl
theorem fr_one : fr 1 = D.tup [.int 1, .int 1] := rfl
theorem ne_fr (a b : Rat) : cmpD .ne (fr a) (fr b) = some (decide (a ≠ b)) := by
  by_cases h : a = b
  · subst h; rw [ne_same (ok_fr a 0) (by decide)]; simp
  · rw [ne_diff (ok_fr a 0) (ok_fr b 0) (by decide) (by decide) fun e => h (fr_inj e)]; simp [h]
theorem ne_fr0 (a : Rat) : cmpD .ne (fr a) (.tup [.int 0, .int 1]) = some (decide (a ≠ 0)) := ne_fr a 0
theorem ne_own {ds : List D} {k : Nat} (h : okDs k ds = true) (hk : k < 64) : cmpD .ne (.own ds) (.lst []) = some !ds.isEmpty := by
  have e : cmpD .ne (.own ds) (.lst []) = cmpD .ne (.lst ds) (.lst []) := rfl
  rw [e]
  cases ds with
  | nil => exact ne_same (k := 1) rfl (by decide)
  | cons d ds => exact ne_diff (j := k + 1) (k := 1) (by simpa [okD] using h) rfl (by omega) (by decide) (by simp)
theorem eq_nil {ds : List D} {k : Nat} (h : okDs k ds = true) (hk : k < 64) : cmpD .eq (.lst ds) (.lst []) = some ds.isEmpty := by
  cases ds with
  | nil => exact eq_same (k := 1) rfl (by decide)
  | cons d ds => exact eq_diff (j := k + 1) (k := 1) (by simpa [okD] using h) rfl (by omega) (by decide) (by simp)
/-- the places where a row is not 0 at c -/
def places (c : Nat) (rest : List (List Rat)) : List Nat := (List.range rest.length).filter fun i => decide (gD (rest.getD i []) c ≠ 0)
theorem places_cons (c : Nat) (x : List Rat) (xs : List (List Rat)) : places c (x :: xs) = (if gD x c ≠ 0 then [0] else []) ++ (places c xs).map (· + 1) := by
  unfold places
  rw [List.length_cons, List.range_succ_eq_map, List.filter_cons, List.filter_map]
  have : ((fun i => decide (gD ((x :: xs).getD i []) c ≠ 0)) ∘ Nat.succ) = fun i => decide (gD (xs.getD i []) c ≠ 0) := by
    funext i; simp
  rw [this]
  by_cases h : gD x c = 0
  · simp [h]
  · simp [h]
theorem pick_places {c : Nat} : ∀ rest : List (List Rat), match pick c rest with
    | none => places c rest = []
    | some (r, ys) => ∃ j js, places c rest = j :: js ∧ rest[j]? = some r ∧ ys = rest.eraseIdx j
  | [] => rfl
  | x :: xs => by
    have ih := pick_places (c := c) xs
    rw [places_cons]
    unfold pick
    by_cases h : gD x c ≠ 0
    · rw [if_pos h, if_pos h]
      exact ⟨0, (places c xs).map (· + 1), rfl, rfl, rfl⟩
    · rw [if_neg h, if_neg h]
      cases hp : pick c xs with
      | none => rw [hp] at ih; simp [ih]
      | some q =>
        obtain ⟨r, ys⟩ := q
        rw [hp] at ih
        obtain ⟨j, js, h1, h2, h3⟩ := ih
        exact ⟨j + 1, js.map (· + 1), by simp [h1], by simpa using h2, by simp [h3]⟩
end MP

/-! the run of the law's rank: the loop. -/
namespace MP
open PySem L2
theorem fr_neg (q : Rat) : D.tup [.int (-q.num), .int (q.den : Int)] = fr (-q) := rfl
theorem sz_zero {k : Nat} (h : 0 < k) : Sz k 0 := ⟨by show (0 : Nat) < 2 ^ k; exact Nat.pow_pos (by decide), by show 1 < 2 ^ k; exact Nat.one_lt_two_pow (by omega)⟩
def rankInner (ov pl ti : Nat) : Ss := (.cons (.set 8 (.call ov (.cons (.idx (.idx (.slot 1) (.slot 7)) (.slot 4)) (.cons (.idx (.slot 6) (.slot 4)) .nil)) [])) (.cons (.set 8 (.tup (.cons (.neg (.idx (.slot 8) (.cint 0))) (.cons (.idx (.slot 8) (.cint 1)) .nil)))) (.cons (.setIx 1 (.slot 7) (.comp (.call pl (.cons (.idx (.idx (.slot 1) (.slot 7)) (.slot 9)) (.cons (.call ti (.cons (.slot 8) (.cons (.idx (.slot 6) (.slot 9)) .nil)) []) .nil)) []) [9] (.rng1 (.slot 3)) .nil [9])) .nil)))
def rankBody (ov pl ti : Nat) : Ss := (.cons (.set 5 (.comp (.slot 7) [7] (.rng2 (.slot 2) (.prim .len (.cons (.slot 1) .nil))) (.cons (.cmp .ne (.idx (.idx (.slot 1) (.slot 7)) (.slot 4)) (.tup (.cons (.cint 0) (.cons (.cint 1) .nil)))) .nil) [7])) (.cons (.ifS (.cmp .eq (.slot 5) (.lst .nil)) (.cons .cont .nil) .nil) (.cons (.popTo 6 1 (.idx (.slot 5) (.cint 0))) (.cons (.ins 1 (.slot 2) (.slot 6)) (.cons (.forS [7] (.rng2 (.bin .add (.slot 2) (.cint 1)) (.prim .len (.cons (.slot 1) .nil))) (rankInner ov pl ti)) (.cons (.set 2 (.bin .add (.slot 2) (.cint 1))) .nil))))))
def rankFd (ov pl ti : Nat) : Fd := ⟨1, 10, (.cons (.setM 1 (.comp (.prim .list (.cons (.slot 6) .nil)) [6] (.seq (.slot 0)) .nil [6])) (.cons (.set 2 (.cint 0)) (.cons (.set 3 (.cint 0)) (.cons (.ifS (.cmp .ne (.slot 1) (.lst .nil)) (.cons (.set 3 (.prim .len (.cons (.idx (.slot 1) (.cint 0)) .nil))) .nil) .nil) (.cons (.forS [4] (.rng1 (.slot 3)) (rankBody ov pl ti)) (.cons (.ret (.slot 2)) .nil))))))⟩
theorem ixN_at {n j : Nat} (h : j < n) : ixN n (j : Int) = some j := by
  unfold ixN
  rw [if_pos (by omega), if_pos (by omega), Int.toNat_natCast]
/-- fractions from the law's own defs, 2400 bits at most -/
structure Ops (Φ : Nat → List D → Option D) (ov pl ti : Nat) : Prop where
  ov : ∀ a b : Rat, Sz 2400 a → Sz 2400 b → b ≠ 0 → Φ ov [fr a, fr b] = some (fr (a / b))
  pl : ∀ a b : Rat, Sz 2400 a → Sz 2400 b → Φ pl [fr a, fr b] = some (fr (a + b))
  ti : ∀ a b : Rat, Sz 2400 a → Sz 2400 b → Φ ti [fr a, fr b] = some (fr (a * b))
section
variable {Φ : Nat → List D → Option D} {wf : Nat} {ρ : Rho}
theorem comp_range2_if {elt a b : E} {t : T} {j lo n : Nat} {g : Nat → D} {p : Nat → Bool} (ha : evE Φ a ρ = some (.int (lo : Int))) (hb : evE Φ b ρ = some (.int ((lo + n : Nat) : Int))) (hn : lo + n ≤ line)
    (ht : ∀ k, k < n → evT Φ t (ρ.set j (.val (.int ((lo + k : Nat) : Int)))) = some (p k))
    (h : ∀ k, k < n → p k = true → (evE Φ elt (ρ.set j (.val (.int ((lo + k : Nat) : Int))))).bind pure? = some (g k)) :
    evE Φ (.comp elt [j] (.rng2 a b) (.cons t .nil) [j]) ρ = some (.lst (((List.range n).filter p).map g)) := by
  have e : rng (lo : Int) ((lo + n : Nat) : Int) = (List.range n).map fun (k : Nat) => D.int ((lo + k : Nat) : Int) := by
    unfold rng
    have : (((lo + n : Nat) : Int) - (lo : Int)).toNat = n := by omega
    rw [this]
    refine List.map_congr_left fun k _ => ?_
    rw [Int.natCast_add]
  have k1 := okRng_nat (n := lo) (by omega)
  have k2 := okRng_nat (n := lo + n) hn
  rw [ev_comp]
  simp only [evIt_rng2, ha, hb, k1, k2, Bool.and_self, if_true, e]
  have : compM (stepC Φ elt [j] (.cons t .nil) [j] ρ) ((List.range n).map fun (k : Nat) => D.int ((lo + k : Nat) : Int)) = some (((List.range n).filter p).map g) := by
    rw [compM_filter (g := fun d => match d with | .int i => g (i.toNat - lo) | d => d) (p := fun d => match d with | .int i => p (i.toNat - lo) | d => false), List.filter_map, List.map_map]
    · have e1 : ∀ k, (((lo + k : Nat) : Int)).toNat - lo = k := fun k => by rw [Int.toNat_natCast]; omega
      have e2 : ((fun d => match d with | .int i => p (i.toNat - lo) | d => false) ∘ fun (k : Nat) => D.int ((lo + k : Nat) : Int)) = p := by
        funext k; show p (((lo + k : Nat) : Int).toNat - lo) = p k; rw [e1]
      have e3 : ((fun d => match d with | .int i => g (i.toNat - lo) | d => d) ∘ fun (k : Nat) => D.int ((lo + k : Nat) : Int)) = g := by
        funext k; show g (((lo + k : Nat) : Int).toNat - lo) = g k; rw [e1]
      rw [e2, e3]
    · intro d hd
      obtain ⟨k, hk, rfl⟩ := List.mem_map.mp hd
      have hk := List.mem_range.mp hk
      have e1 : (((lo + k : Nat) : Int)).toNat - lo = k := by rw [Int.toNat_natCast]; omega
      simp only [stepC, wipeR_one, setTg_name, List.set_set, evTs_cons, ht k hk, e1]
      cases hp : p k with
      | false => rfl
      | true => simp only [h k hk hp]; rfl
  rw [this]
  have : ((List.range n).filter p).length ≤ n := by simpa using List.length_filter_le p (List.range n)
  simp only [List.length_map]
  rw [if_pos (decide_eq_true (by omega))]
theorem clear_turn {ov pl ti w c b : Nat} {r x : List Rat} (O : Ops Φ ov pl ti) (hw : w ≤ line) (hc : c < w) (hr : r.length = w) (hx : x.length = w) (hr0 : gD r c ≠ 0)
    (sr : ∀ k, Sz b (gD r k)) (sx : ∀ k, Sz b (gD x k)) (hb : 3 * b ≤ 2400) (pre post : List (List Rat)) (R F : SV) (x5 x7 x8 x9 : SV) :
    stepF Φ wf [7] (rankInner ov pl ti) (.int (pre.length : Int)) [R, .mls ((pre ++ x :: post).map frs), F, .val (.int (w : Int)), .val (.int (c : Int)), x5, .val (frs r), x7, x8, x9]
      = some (.nx [R, .mls ((pre ++ clear w c r x :: post).map frs), F, .val (.int (w : Int)), .val (.int (c : Int)), x5, .val (frs r), .val (.int (pre.length : Int)), .val (fr (-(gD x c / gD r c))), x9]) := by
  have hix : ixD (.own ((pre ++ x :: post).map frs)) (.int (pre.length : Int)) = some (frs x) := ix_own (by simp)
  have hxc : c < x.length := by rw [hx]; exact hc
  have hrc : c < r.length := by rw [hr]; exact hc
  have h1 := O.ov (gD x c) (gD r c) ((sx c).mono (by omega)) ((sr c).mono (by omega)) hr0
  have sq : Sz (b + b) (-(gD x c / gD r c)) := ((sx c).div (sr c) hr0).neg
  have h2 : (2 : Nat) ≤ line := by decide
  have h3 : ixN ((pre ++ x :: post).map frs).length (pre.length : Int) = some pre.length := ixN_at (by simp)
  have h4 : ((pre ++ x :: post).map frs).set pre.length (frs (clear w c r x)) = (pre ++ clear w c r x :: post).map frs := by simp
  have h5 : evE Φ (.comp (.call pl (.cons (.idx (.idx (.slot 1) (.slot 7)) (.slot 9)) (.cons (.call ti (.cons (.slot 8) (.cons (.idx (.slot 6) (.slot 9)) .nil)) []) .nil)) []) [9] (.rng1 (.slot 3)) .nil [9])
      [R, .mls ((pre ++ x :: post).map frs), F, .val (.int (w : Int)), .val (.int (c : Int)), x5, .val (frs r), .val (.int (pre.length : Int)), .val (fr (-(gD x c / gD r c))), x9] = some (frs (clear w c r x)) := by
    rw [comp_range (n := w) (g := fun k => fr (gD x k + -(gD x c / gD r c) * gD r k))]
    · simp [frs, clear]
    · simp
    · exact hw
    · intro k hk
      have hxk : k < x.length := by rw [hx]; exact hk
      have hrk : k < r.length := by rw [hr]; exact hk
      have t1 := O.ti (-(gD x c / gD r c)) (gD r k) (sq.mono (by omega)) ((sr k).mono (by omega))
      have t2 := O.pl (gD x k) (-(gD x c / gD r c) * gD r k) ((sx k).mono (by omega)) ((sq.mul (sr k)).mono (by omega))
      generalize -(gD x c / gD r c) = Q at t1 t2 ⊢
      clear h3 h4
      generalize (pre ++ x :: post).map frs = L at *
      simp [hix, ix_frs' hxk, ix_frs' hrk, t1, t2]
  have h6 := fr_neg (gD x c / gD r c)
  generalize hQ : gD x c / gD r c = q at *
  generalize (pre ++ x :: post).map frs = L at *
  simp [stepF, rankInner, hix, ix_frs' hxc, ix_frs' hrc, h1, h2, h6, h3, h5, h4]
theorem clear_loop {ov pl ti w c b : Nat} {r : List Rat} (O : Ops Φ ov pl ti) (hw : w ≤ line) (hc : c < w) (hr : r.length = w) (hr0 : gD r c ≠ 0)
    (sr : ∀ k, Sz b (gD r k)) (hb : 3 * b ≤ 2400) (R F : SV) (x5 x9 : SV) :
    ∀ (ys pre : List (List Rat)) (x7 x8 : SV), (∀ x ∈ ys, x.length = w) → (∀ x ∈ ys, ∀ k, Sz b (gD x k)) → ∃ x7' x8',
    forM (stepF Φ wf [7] (rankInner ov pl ti)) ((List.range' pre.length ys.length).map fun (k : Nat) => D.int (k : Int)) [R, .mls ((pre ++ ys).map frs), F, .val (.int (w : Int)), .val (.int (c : Int)), x5, .val (frs r), x7, x8, x9]
      = some (.nx [R, .mls ((pre ++ ys.map (clear w c r)).map frs), F, .val (.int (w : Int)), .val (.int (c : Int)), x5, .val (frs r), x7', x8', x9])
  | [], pre, x7, x8, _, _ => ⟨x7, x8, rfl⟩
  | x :: ys, pre, x7, x8, hl, hs => by
    have h1 := clear_turn (wf := wf) O hw hc hr (hl x (List.mem_cons_self ..)) hr0 sr (hs x (List.mem_cons_self ..)) hb pre ys R F x5 x7 x8 x9
    obtain ⟨x7', x8', h2⟩ := clear_loop O hw hc hr hr0 sr hb R F x5 x9 ys (pre ++ [clear w c r x]) (.val (.int (pre.length : Int))) (.val (fr (-(gD x c / gD r c)))) (fun z hz => hl z (List.mem_cons_of_mem _ hz)) (fun z hz => hs z (List.mem_cons_of_mem _ hz))
    refine ⟨x7', x8', ?_⟩
    have e : (List.range' pre.length (x :: ys).length).map (fun (k : Nat) => D.int (k : Int)) = .int (pre.length : Int) :: (List.range' (pre.length + 1) ys.length).map fun (k : Nat) => D.int (k : Int) := rfl
    have e2 : (pre ++ [clear w c r x]).length = pre.length + 1 := by simp
    rw [e2, List.append_assoc, List.append_assoc] at h2
    rw [e, forM_cons, h1]
    exact h2
end
end MP

/-! the run of the law's rank: the columns. -/
namespace MP
open PySem L2
def rB : Nat → Nat
  | 0 => 2
  | c + 1 => 4 * rB c + 1
theorem eraseIdx_map' {α β : Type} (f : α → β) : ∀ (xs : List α) (n : Nat), (xs.map f).eraseIdx n = (xs.eraseIdx n).map f
  | [], _ => rfl
  | _ :: _, 0 => rfl
  | x :: xs, n + 1 => congrArg (f x :: ·) (eraseIdx_map' f xs n)
theorem rB_le : ∀ c, c < 5 → 3 * rB c ≤ 2400 := by decide
theorem rB_pos : ∀ c, 0 < rB c
  | 0 => by decide
  | c + 1 => Nat.succ_pos _
theorem rankF_nil (w : Nat) : ∀ m c, rankF w m c [] = 0
  | 0, _ => rfl
  | m + 1, c => by
    show rankF w m (c + 1) [] = 0
    exact rankF_nil w m (c + 1)
theorem ints_okDs (xs : List Nat) (l : Nat) : okDs 0 (xs.map fun (k : Nat) => D.int ((l + k : Nat) : Int)) = true :=
  okDs_of fun d hd => by obtain ⟨k, _, rfl⟩ := List.mem_map.mp hd; rfl
section
variable {Φ : Nat → List D → Option D} {wf : Nat} {ρ : Rho}
theorem rank_places {ov pl ti w c : Nat} (hc : c < w) (top rest : List (List Rat)) (hn : top.length + rest.length ≤ 64) (hl : ∀ x ∈ rest, x.length = w) (R W x5 x6 x7 x8 x9 : SV) :
    evE Φ (.comp (.slot 7) [7] (.rng2 (.slot 2) (.prim .len (.cons (.slot 1) .nil))) (.cons (.cmp .ne (.idx (.idx (.slot 1) (.slot 7)) (.slot 4)) (.tup (.cons (.cint 0) (.cons (.cint 1) .nil)))) .nil) [7])
      [R, .mls ((top ++ rest).map frs), .val (.int (top.length : Int)), W, .val (.int (c : Int)), x5, x6, x7, x8, x9] = some (.lst ((places c rest).map fun (k : Nat) => D.int ((top.length + k : Nat) : Int))) := by
  have hl64 : (64 : Nat) ≤ line := by decide
  refine comp_range2_if (lo := top.length) (n := rest.length) (by simp) (by simp) (by omega) (fun k hk => ?_) (fun k hk _ => by simp)
  have hix : ixD (.own ((top ++ rest).map frs)) (.int ((top.length + k : Nat) : Int)) = some (frs (rest.getD k [])) := ix_own (by
    rw [List.getElem?_map, List.getElem?_append_right (by omega)]
    have : top.length + k - top.length = k := by omega
    rw [this, List.getD_eq_getElem?_getD, List.getElem?_eq_getElem hk]; rfl)
  have hlen : c < (rest.getD k []).length := by
    rw [List.getD_eq_getElem?_getD, List.getElem?_eq_getElem hk, Option.getD_some, hl _ (List.getElem_mem hk)]; exact hc
  have h2 : (2 : Nat) ≤ line := by decide
  have h3 := ne_fr0 (gD (rest.getD k []) c)
  generalize rest.getD k [] = X at *
  generalize (top ++ rest).map frs = L at *
  generalize ((top.length + k : Nat) : Int) = I at *
  simp [hix, ix_frs' hlen, h2, h3]
theorem rank_none {ov pl ti w c : Nat} (hc : c < w) (top rest : List (List Rat)) (hn : top.length + rest.length ≤ 64) (hl : ∀ x ∈ rest, x.length = w) (hp : places c rest = []) (R W x4 x5 x6 x7 x8 x9 : SV) :
    stepF Φ wf [4] (rankBody ov pl ti) (.int (c : Int)) [R, .mls ((top ++ rest).map frs), .val (.int (top.length : Int)), W, x4, x5, x6, x7, x8, x9] =
      some (.ct [R, .mls ((top ++ rest).map frs), .val (.int (top.length : Int)), W, .val (.int (c : Int)), .val (.lst []), x6, x7, x8, x9]) := by
  have h1 := rank_places (Φ := Φ) (ov := ov) (pl := pl) (ti := ti) hc top rest hn hl R W x5 x6 x7 x8 x9
  rw [hp, List.map_nil] at h1
  have h2 : cmpD .eq (.lst []) (.lst []) = some true := eq_nil (k := 0) (ds := []) rfl (by decide)
  have h0 : (0 : Nat) ≤ line := Nat.zero_le _
  generalize (top ++ rest).map frs = L at *
  simp [stepF, rankBody, h1, h2, h0]
theorem rank_some {ov pl ti w c b : Nat} (O : Ops Φ ov pl ti) (hw : w ≤ line) (hc : c < w) (top rest : List (List Rat)) (hn : top.length + rest.length ≤ 64) (hl : ∀ x ∈ rest, x.length = w)
    (hs : ∀ x ∈ rest, ∀ k, Sz b (gD x k)) (hb : 3 * b ≤ 2400) {r : List Rat} {ys : List (List Rat)} (hp : pick c rest = some (r, ys)) (R x4 x5 x6 x7 x8 x9 : SV) :
    ∃ x5' x7' x8', stepF Φ wf [4] (rankBody ov pl ti) (.int (c : Int)) [R, .mls ((top ++ rest).map frs), .val (.int (top.length : Int)), .val (.int (w : Int)), x4, x5, x6, x7, x8, x9] =
      some (.nx [R, .mls ((top ++ [r] ++ ys.map (clear w c r)).map frs), .val (.int ((top.length + 1 : Nat) : Int)), .val (.int (w : Int)), .val (.int (c : Int)), x5', .val (frs r), x7', x8', x9]) := by
  have hl64 : (64 : Nat) < line := by decide
  have h1 := rank_places (Φ := Φ) (ov := ov) (pl := pl) (ti := ti) hc top rest hn hl R (.val (.int (w : Int))) x5 x6 x7 x8 x9
  have hpp := pick_places (c := c) rest
  rw [hp] at hpp
  obtain ⟨j, js, e1, e2, e3⟩ := hpp
  obtain ⟨hr0, hmem⟩ := pick_some hp
  have hrm : r ∈ rest := (hmem r).mpr (.inl rfl)
  obtain ⟨hj, _⟩ := List.getElem?_eq_some_iff.mp e2
  rw [e1] at h1
  have h2 : cmpD .eq (.lst ((j :: js).map fun (k : Nat) => D.int ((top.length + k : Nat) : Int))) (.lst []) = some false := eq_nil (k := 0) (ints_okDs (j :: js) _) (by decide)
  have h3 : ixD (.lst ((j :: js).map fun (k : Nat) => D.int ((top.length + k : Nat) : Int))) (.int 0) = some (.int ((top.length + j : Nat) : Int)) := ix_lst (i := 0) rfl
  have h4 : okRng ((top.length + j : Nat) : Int) = true := okRng_nat (by omega)
  have h5 : ixN ((top ++ rest).map frs).length ((top.length + j : Nat) : Int) = some (top.length + j) := ixN_at (by simp; omega)
  have h6 : ((top ++ rest).map frs)[top.length + j]? = some (frs r) := by
    rw [List.getElem?_map, List.getElem?_append_right (by omega)]
    have : top.length + j - top.length = j := by omega
    rw [this, e2]; rfl
  have h7 : ((top ++ rest).map frs).eraseIdx (top.length + j) = (top ++ ys).map frs := by
    rw [eraseIdx_map', List.eraseIdx_append_of_length_le (by omega), e3]
    have : top.length + j - top.length = j := by omega
    rw [this]
  have hyl : ys.length + 1 = rest.length := by rw [e3, List.length_eraseIdx_of_lt hj]; omega
  have h8 : ((top ++ ys).map frs).take top.length ++ frs r :: ((top ++ ys).map frs).drop top.length = (top ++ [r] ++ ys).map frs := by
    rw [← List.map_take, ← List.map_drop, List.take_left' rfl, List.drop_left' rfl]; simp
  have h9 : ((top.length : Int)) ≤ (((top ++ ys).map frs).length : Int) := by simp; omega
  have h10 : ((top ++ ys).map frs).length < line := by simp; omega
  have hlr := hl r hrm
  have hly : ∀ x ∈ ys, x.length = w := fun x hx => hl x ((hmem x).mpr (.inr hx))
  have hsy : ∀ x ∈ ys, ∀ k, Sz b (gD x k) := fun x hx => hs x ((hmem x).mpr (.inr hx))
  generalize hP : D.lst ((j :: js).map fun (k : Nat) => D.int ((top.length + k : Nat) : Int)) = P at *
  have hPp : pure? P = some P := by rw [← hP]; rfl
  obtain ⟨x7', x8', hloop⟩ := clear_loop (wf := wf) O hw hc hlr hr0 (hs r hrm) hb R (.val (.int (top.length : Int))) (.val P) x9 ys (top ++ [r]) x7 x8 hly hsy
  have k1 := okRng_nat (n := top.length + 1) (by omega)
  have k2 := okRng_nat (n := (top ++ [r] ++ ys).length) (by simp; omega)
  have e4 : rng ((top.length + 1 : Nat) : Int) ((top ++ [r] ++ ys).length : Int) = (List.range' (top ++ [r]).length ys.length).map fun (k : Nat) => D.int (k : Int) := by
    unfold rng
    have : (((top ++ [r] ++ ys).length : Int) - ((top.length + 1 : Nat) : Int)).toNat = ys.length := by simp; omega
    rw [this, List.range'_eq_map_range, List.map_map]
    refine List.map_congr_left fun k _ => congrArg D.int ?_
    show (((top.length + 1 : Nat) : Int) + (k : Int)) = ((((top ++ [r]).length + k : Nat)) : Int)
    rw [List.length_append]
    simp
  have e5 : (((top ++ [r] ++ ys).map frs).length : Int) = ((top ++ [r] ++ ys).length : Int) := by rw [List.length_map]
  have e6 : ((top.length : Int)) + 1 = ((top.length + 1 : Nat) : Int) := rfl
  refine ⟨.val P, x7', x8', ?_⟩
  generalize ((top ++ [r] ++ ys).length : Int) = Z at *
  generalize (List.range' (top ++ [r]).length ys.length).map (fun (k : Nat) => D.int (k : Int)) = RG at *
  generalize hA : (top ++ rest).map frs = A at *
  generalize hB : (top ++ ys).map frs = B at *
  generalize hC : (top ++ [r] ++ ys).map frs = C at *
  generalize hD : (top ++ [r] ++ ys.map (clear w c r)).map frs = E at *
  generalize hT : ((top.length + 1 : Nat) : Int) = T at *
  generalize hJ : ((top.length + j : Nat) : Int) = J at *
  have t0 : (0 : Int) ≤ (top.length : Int) := by omega
  have t1 : ((top.length : Int)).toNat = top.length := Int.toNat_natCast _
  generalize hL : (top.length : Int) = LL at *
  have h0 : (0 : Nat) ≤ line := Nat.zero_le _
  simp [stepF, rankBody, evS_forF, h1, hPp, h2, h3, h4, h5, h6, h7, h8, h9, h10, t0, t1, k1, k2, e4, e5, e6, hloop, h0]
theorem rank_loop {ov pl ti w : Nat} (O : Ops Φ ov pl ti) (hw : w ≤ 5) (R : SV) : ∀ (m c : Nat) (top rest : List (List Rat)) (x4 x5 x6 x7 x8 x9 : SV), c + m = w → top.length + rest.length ≤ 64 →
    (∀ x ∈ rest, x.length = w) → (∀ x ∈ rest, ∀ k, Sz (rB c) (gD x k)) → ∃ L x4' x5' x6' x7' x8' x9',
    forM (stepF Φ wf [4] (rankBody ov pl ti)) ((List.range' c m).map fun (k : Nat) => D.int (k : Int)) [R, .mls ((top ++ rest).map frs), .val (.int (top.length : Int)), .val (.int (w : Int)), x4, x5, x6, x7, x8, x9] =
      some (.nx [R, .mls L, .val (.int ((top.length + rankF w m c rest : Nat) : Int)), .val (.int (w : Int)), x4', x5', x6', x7', x8', x9'])
  | 0, c, top, rest, x4, x5, x6, x7, x8, x9, _, _, _, _ => ⟨_, x4, x5, x6, x7, x8, x9, rfl⟩
  | m + 1, c, top, rest, x4, x5, x6, x7, x8, x9, e, hn, hl, hs => by
    have hwl : w ≤ line := Nat.le_trans hw (by decide)
    have hl0 : (List.range' c (m + 1)).map (fun (k : Nat) => D.int (k : Int)) = .int (c : Int) :: (List.range' (c + 1) m).map fun (k : Nat) => D.int (k : Int) := rfl
    rw [hl0, forM_cons]
    have hmono : rB c ≤ rB (c + 1) := by show rB c ≤ 4 * rB c + 1; omega
    cases hp : pick c rest with
    | none =>
      have hpp := pick_places (c := c) rest
      rw [hp] at hpp
      have hst := rank_none (Φ := Φ) (wf := wf) (ov := ov) (pl := pl) (ti := ti) (by omega : c < w) top rest hn hl hpp R (.val (.int (w : Int))) x4 x5 x6 x7 x8 x9
      rw [hst]
      have er : rankF w (m + 1) c rest = rankF w m (c + 1) rest := by
        conv => lhs; unfold rankF
        rw [hp]
      rw [er]
      exact rank_loop O hw R m (c + 1) top rest _ _ _ _ _ _ (by omega) hn hl fun x hx k => (hs x hx k).mono hmono
    | some q =>
      obtain ⟨r, ys⟩ := q
      obtain ⟨hr0, hmem⟩ := pick_some hp
      have hrm : r ∈ rest := (hmem r).mpr (.inl rfl)
      have hpp := pick_places (c := c) rest
      rw [hp] at hpp
      obtain ⟨j, js, e1, e2, e3⟩ := hpp
      obtain ⟨hj, _⟩ := List.getElem?_eq_some_iff.mp e2
      have hyl : ys.length + 1 = rest.length := by rw [e3, List.length_eraseIdx_of_lt hj]; omega
      obtain ⟨x5', x7', x8', hst⟩ := rank_some (wf := wf) O hwl (by omega : c < w) top rest hn hl hs (rB_le c (by omega)) hp R x4 x5 x6 x7 x8 x9
      rw [hst]
      have er : rankF w (m + 1) c rest = rankF w m (c + 1) (ys.map (clear w c r)) + 1 := by
        conv => lhs; unfold rankF
        rw [hp]
      have ih := rank_loop O hw R m (c + 1) (top ++ [r]) (ys.map (clear w c r)) (.val (.int (c : Int))) x5' (.val (frs r)) x7' x8' x9 (by omega) (by simp; omega)
        (fun x hx => by obtain ⟨z, _, rfl⟩ := List.mem_map.mp hx; simp [clear])
        (fun x hx k => by
          obtain ⟨z, hz, rfl⟩ := List.mem_map.mp hx
          have hzr : z ∈ rest := (hmem z).mpr (.inr hz)
          rw [clear_at (hl r hrm) (hl z hzr)]
          exact ((hs z hzr k).add ((((hs z hzr c).div (hs r hrm c) hr0).neg).mul (hs r hrm k))).mono (by show _ ≤ 4 * rB c + 1; omega))
      have e7 : (top ++ [r]).length = top.length + 1 := by simp
      have e8 : top.length + 1 + rankF w m (c + 1) (ys.map (clear w c r)) = top.length + rankF w (m + 1) c rest := by rw [er]; omega
      rw [e7, e8] at ih
      exact ih
end
theorem run_rank {tab : List Fd} {wf t ov pl ti N w : Nat} (ht : tab[t]? = some (rankFd ov pl ti)) (O : Ops (run tab wf N) ov pl ti) (hw : w ≤ 5) {rows : List (List Rat)} (hn : rows.length ≤ 64)
    (hl : ∀ x ∈ rows, x.length = w) (hs : ∀ x ∈ rows, ∀ k, Sz 2 (gD x k)) : run tab wf (N + 1) t [.lst (rows.map frs)] = some (.int ((rankF w w 0 rows : Nat) : Int)) := by
  have hl64 : (64 : Nat) < line := by decide
  have hwl : w ≤ line := Nat.le_trans hw (by decide)
  have h1 : evE (run tab wf N) (.comp (.prim .list (.cons (.slot 6) .nil)) [6] (.seq (.slot 0)) .nil [6]) [.val (.lst (rows.map frs)), .non, .non, .non, .non, .non, .non, .non, .non, .non] = some (.lst (rows.map frs)) := by
    rw [comp_seq (g := fun d => d) (ds := rows.map frs) (d := .lst (rows.map frs)) rfl rfl (by simp; omega)]
    · simp
    · intro d hd
      obtain ⟨x, _, rfl⟩ := List.mem_map.mp hd
      simp [frs]
      rfl
  have ok : okDs 3 (rows.map frs) = true := okDs_of fun d hd => by obtain ⟨x, _, rfl⟩ := List.mem_map.mp hd; exact ok_frs x 1
  have h2 := ne_own ok (by decide)
  have h0 : (0 : Nat) ≤ line := Nat.zero_le _
  refine run_rt [.val (.lst (rows.map frs)), .non, .non, .non, .non, .non, .non, .non, .non, .non] ht rfl rfl ?_
  cases rows with
  | nil =>
    rw [rankF_nil]
    rw [List.map_nil] at h1 h2 ⊢
    have h3 : okRng 0 = true := by decide
    have h4 : rng 0 0 = [] := rfl
    simp [rankFd, fresh, h1, h2, h0, evS_forF, h3, h4]
  | cons x xs =>
    obtain ⟨L, x4', x5', x6', x7', x8', x9', hloop⟩ := rank_loop (wf := wf) O hw (.val (.lst ((x :: xs).map frs))) w 0 [] (x :: xs) .non .non .non .non .non .non (by omega) (by simpa using hn) hl (fun y hy k => hs y hy k)
    have h3 : ixD (.own ((x :: xs).map frs)) (.int 0) = some (frs x) := ix_own (i := 0) rfl
    have h4 := hl x (List.mem_cons_self ..)
    have h5 := okRng_nat hwl
    have h6 : rng 0 (w : Int) = (List.range' 0 w).map fun (k : Nat) => D.int (k : Int) := by rw [rng_nat, List.range_eq_range']
    rw [List.nil_append, List.length_nil, Nat.zero_add] at hloop
    have h7 : ((x :: xs).map frs).isEmpty = false := rfl
    rw [h7] at h2
    generalize (x :: xs).map frs = A at *
    generalize rankF w w 0 (x :: xs) = Q at *
    simp at hloop
    simp [rankFd, fresh, h1, h2, h0, h3, h4, evS_forF, h5, h6, hloop]
end MP

/-! the law's draws: cells and rows of numbers; equations. -/
namespace MP
open PySem L2
def cellFd : Fd := ⟨2, 2, (.cons (.ifS (.cmp .lt (.slot 1) (.prim .len (.cons (.slot 0) .nil))) (.cons (.ret (.bin .mod (.prim .abs (.cons (.prim .int (.cons (.idx (.slot 0) (.slot 1)) .nil)) .nil)) (.bin .pow (.cint 10) (.cint 60)))) .nil) .nil) (.cons (.ret (.cint 0)) .nil))⟩
def drawBody : Ss := (.cons (.ifS (.cmp .ge (.slot 0) (.bin .pow (.cint 10) (.cint 18))) (.cons (.app 3 (.bin .mod (.prim .int (.cons (.slot 4) .nil)) (.slot 2))) (.cons (.set 4 (.bin .fdiv (.slot 4) (.slot 2))) .nil)) (.cons (.set 6 (.bin .mod (.bin .add (.bin .add (.bin .mul (.bin .mod (.prim .int (.cons (.slot 0) .nil)) (.cint 1000003)) (.cint 48271)) (.bin .mul (.slot 5) (.cint 69621))) (.bin .fdiv (.slot 0) (.cint 1000003))) (.cint 2147483647))) (.cons (.set 6 (.bin .mod (.bin .add (.bin .add (.bin .mul (.slot 6) (.cint 16807)) (.bin .mul (.slot 5) (.cint 12345))) (.cint 99991)) (.cint 2147483629))) (.cons (.app 3 (.bin .mod (.bin .fdiv (.slot 6) (.cint 7)) (.slot 2))) .nil)))) .nil)
def drawFd : Fd := ⟨3, 7, (.cons (.setM 3 (.lst .nil)) (.cons (.set 4 (.slot 0)) (.cons (.forS [5] (.rng1 (.slot 1)) drawBody) (.cons (.frz 3) (.cons (.ret (.slot 3)) .nil)))))⟩
theorem pow_of {i : Int} {j : Nat} (h1 : (j : Int) ≤ 1000000) (h2 : i.natAbs < 2 ^ 64) (h3 : 0 < i) : ∃ P : Int, 0 < P ∧ binD .pow (.int i) (.int (j : Int)) = some (.int P) := by
  refine ⟨i ^ j, Int.pow_pos h3, ?_⟩
  have h0 : (0 : Int) ≤ (j : Int) := by omega
  simp only [binD, decide_eq_true h0, decide_eq_true h1, decide_eq_true h2, Bool.and_self, if_true, Int.toNat_natCast]
theorem bi_fmod {a m : Int} {k : Nat} (h : 0 < m) (hm : m ≤ 2 ^ k) : Bi k (a.fmod m) := by
  have h1 := Int.fmod_nonneg_of_pos a h
  have h2 := Int.fmod_lt_of_pos a h
  unfold Bi
  have : ((2 ^ k : Nat) : Int) = (2 : Int) ^ k := by simp
  omega
section
variable {tab : List Fd} {wf : Nat}
theorem run_cell {t N : Nat} (ht : tab[t]? = some cellFd) {ns : List Int} {k : Nat} : ∃ z : Int, run tab wf (N + 1) t [.lst (ns.map .int), .int (k : Int)] = some (.int z) := by
  obtain ⟨P, hP, hp⟩ := pow_of (i := 10) (j := 60) (by decide) (by decide) (by decide)
  have hP0 : P ≠ 0 := by omega
  by_cases h : k < ns.length
  · refine ⟨((ns[k].natAbs : Int)).fmod P, run_rt [.val (.lst (ns.map .int)), .val (.int (k : Int))] ht rfl rfl ?_⟩
    have h1 : ixD (.lst (ns.map .int)) (.int (k : Int)) = some (.int ns[k]) := ix_lst (by simp [h])
    have h2 : (k : Int) < (ns.length : Int) := by omega
    have hp' : binD .pow (.int 10) (.int 60) = some (.int P) := hp
    simp [cellFd, h, h1, hp', bin_mod hP0]
  · refine ⟨0, run_rt [.val (.lst (ns.map .int)), .val (.int (k : Int))] ht rfl rfl ?_⟩
    simp [cellFd, h]
theorem draw_turn {Φ : Nat → List D → Option D} {z num : Int} {k : Nat} (hk : k ≤ 64) {ds : List Int} (hd : ds.length ≤ 64) (S x5 x6 : SV) : ∃ d num' x6',
    stepF Φ wf [5] drawBody (.int (k : Int)) [.val (.int z), S, .val (.int 1000), .mls (ds.map .int), .val (.int num), x5, x6] =
      some (.nx [.val (.int z), S, .val (.int 1000), .mls ((ds ++ [d]).map .int), .val (.int num'), .val (.int (k : Int)), x6']) := by
  obtain ⟨P, hP, hp⟩ := pow_of (i := 10) (j := 18) (by decide) (by decide) (by decide)
  have hp' : binD .pow (.int 10) (.int 18) = some (.int P) := hp
  have hl64 : (64 : Nat) < line := by decide
  have hl : ds.length < line := by omega
  by_cases h : P ≤ z
  · refine ⟨num.fmod 1000, num.fdiv 1000, x6, ?_⟩
    simp [stepF, drawBody, hp', h, bin_mod, bin_fdiv (i := num) (j := 1000) (by decide) (by decide), hl]
  · have m1 : mulOk (z.fmod 1000003) 48271 = true := mulOk_of (bi_fmod (k := 20) (by decide) (by decide)) (show Bi 16 48271 by unfold Bi; decide) (by decide)
    have hbk : Bi 7 (k : Int) := by unfold Bi; omega
    have m2 : mulOk (k : Int) 69621 = true := mulOk_of hbk (show Bi 17 69621 by unfold Bi; decide) (by decide)
    have m4 : mulOk (k : Int) 12345 = true := mulOk_of hbk (show Bi 17 12345 by unfold Bi; decide) (by decide)
    have m3 : ∀ a : Int, mulOk (a.fmod 2147483647) 16807 = true := fun a => mulOk_of (bi_fmod (k := 31) (by decide) (by decide)) (show Bi 15 16807 by unfold Bi; decide) (by decide)
    obtain ⟨a, ha⟩ : ∃ a, (z.fmod 1000003 * 48271 + (k : Int) * 69621 + z.fdiv 1000003).fmod 2147483647 = a := ⟨_, rfl⟩
    have m3' : mulOk a 16807 = true := ha ▸ m3 _
    obtain ⟨b, hb⟩ : ∃ b, (a * 16807 + (k : Int) * 12345 + 99991).fmod 2147483629 = b := ⟨_, rfl⟩
    refine ⟨(b.fdiv 7).fmod 1000, num, .val (.int b), ?_⟩
    simp [stepF, drawBody, hp', h, bin_mod, bin_mul m1, bin_mul m2, bin_mul m4, bin_mul m3', ha, hb, bin_fdiv (i := z) (j := 1000003) (by decide) (by decide), bin_fdiv (i := b) (j := 7) (by decide) (by decide), hl]
theorem run_draw {t N : Nat} (ht : tab[t]? = some drawFd) (z : Int) {n : Nat} (hn : n ≤ 64) : ∃ ds : List Int, ds.length = n ∧ run tab wf (N + 1) t [.int z, .int (n : Int), .int 1000] = some (.lst (ds.map .int)) := by
  have loop : ∀ (m k : Nat) (ds : List Int) (num : Int) (x5 x6 : SV), k + m = n → ds.length = k → ∃ (es : List Int) (num' : Int) (x5' x6' : SV), es.length = n ∧
      forM (stepF (run tab wf N) wf [5] drawBody) ((List.range' k m).map fun (i : Nat) => D.int (i : Int)) [.val (.int z), .val (.int (n : Int)), .val (.int 1000), .mls (ds.map .int), .val (.int num), x5, x6] =
      some (.nx [.val (.int z), .val (.int (n : Int)), .val (.int 1000), .mls (es.map .int), .val (.int num'), x5', x6']) := by
    intro m
    induction m with
    | zero => intro k ds num x5 x6 e hd; exact ⟨ds, num, x5, x6, by omega, rfl⟩
    | succ m ih =>
      intro k ds num x5 x6 e hd
      obtain ⟨d, num', x6', hs⟩ := draw_turn (wf := wf) (Φ := run tab wf N) (z := z) (num := num) (by omega : k ≤ 64) (by omega : ds.length ≤ 64) (.val (.int (n : Int))) x5 x6
      have hl : (List.range' k (m + 1)).map (fun (i : Nat) => D.int (i : Int)) = .int (k : Int) :: (List.range' (k + 1) m).map fun (i : Nat) => D.int (i : Int) := rfl
      rw [hl, forM_cons, hs]
      exact ih (k + 1) (ds ++ [d]) num' _ x6' (by omega) (by simp; omega)
  obtain ⟨es, num', x5', x6', he, hs⟩ := loop n 0 [] z .non .non (by omega) rfl
  refine ⟨es, he, run_rt [.val (.int z), .val (.int (n : Int)), .val (.int 1000), .non, .non, .non, .non] ht rfl rfl ?_⟩
  have h0 : (0 : Nat) ≤ line := Nat.zero_le _
  have h5 := okRng_nat (n := n) (Nat.le_trans hn (by decide))
  have h6 : rng 0 (n : Int) = (List.range' 0 n).map fun (k : Nat) => D.int (k : Int) := by rw [rng_nat, List.range_eq_range']
  rw [List.map_nil] at hs
  simp [drawFd, fresh, h0, evS_forF, h5, h6, hs]
end
end MP

/-! the law's equations. -/
namespace MP
open PySem L2
theorem fr_int (z : Int) : D.tup [.int z, .int 1] = fr (z : Rat) := by simp [fr]
def Small (q : Rat) : Prop := ∃ z : Int, q = (z : Rat) ∧ z.natAbs ≤ 2
theorem Small.zero : Small 0 := ⟨0, by simp, by decide⟩
theorem Small.inn {q : Rat} (h : Small q) : In 1 2 q := by
  obtain ⟨z, rfl, hz⟩ := h
  exact ⟨z, by simp, hz⟩
theorem Small.sz {q : Rat} (h : Small q) : Sz 2 q := h.inn.sz (by decide) (by decide) (by decide)
theorem small_gD {c : List Rat} (h : ∀ x ∈ c, Small x) (k : Nat) : Small (gD c k) := by
  by_cases hk : k < c.length
  · rw [gD_lt hk]; exact h _ (List.getElem_mem hk)
  · rw [gD_past (by omega)]; exact .zero
theorem Small.mul3 {q : Rat} (h : Small q) {a : Int} (ha : a.natAbs ≤ 1) : Small ((a : Rat) * q) := by
  obtain ⟨z, rfl, hz⟩ := h
  refine ⟨a * z, by rw [Rat.intCast_mul], ?_⟩
  rw [Int.natAbs_mul]
  exact Nat.mul_le_mul ha hz
theorem fmod_small {a m : Int} (h : 0 < m) : 0 ≤ a.fmod m ∧ a.fmod m < m := ⟨Int.fmod_nonneg_of_pos a h, Int.fmod_lt_of_pos a h⟩
theorem In.add {D M N : Nat} {a b : Rat} (h : In D M a) (h' : In D N b) : In D (M + N) (a + b) := by
  obtain ⟨n, e, l⟩ := h
  obtain ⟨n', e', l'⟩ := h'
  refine ⟨n + n', ?_, by omega⟩
  rw [Rat.intCast_add, ← e, ← e']; grind
structure Pt (w : Nat) (pt : List Rat) : Prop where
  len : pt.length = w
  i : ∀ x ∈ pt, In 12 108 x
theorem Pt.at {w : Nat} {pt : List Rat} (h : Pt w pt) (k : Nat) : In 12 108 (gD pt k) := by
  by_cases hk : k < pt.length
  · rw [gD_lt hk]; exact h.i _ (List.getElem_mem hk)
  · rw [gD_past (by omega)]; exact .zero _ _
theorem dot_in {c pt : List Rat} {w : Nat} (hc : ∀ x ∈ c, Small x) (hp : Pt w pt) : ∀ k, In 12 (k * 216) (dot k (gD c) (gD pt))
  | 0 => In.zero _ _
  | k + 1 => by
    have h1 := dot_in hc hp k
    have h2 : In (1 * 12) (2 * 108) (gD c k * gD pt k) := (small_gD hc k).inn.mul (hp.at k)
    have := h1.add (h2 : In 12 216 _)
    rw [Nat.succ_mul]
    exact this
structure Good (w : Nat) (pt : List Rat) (e : Eqn) : Prop where
  lc : e.c.length = w
  sm : ∀ x ∈ e.c, Small x
  dot : dot w (gD e.c) (gD pt) = e.b
theorem eqs_of {w : Nat} {pt : List Rat} {es : List Eqn} (hw : w ≤ 5) (hp : Pt w pt) (h6 : es.length ≤ 6) (h : ∀ e ∈ es, Good w pt e) : Eqs w (gD pt) es := by
  refine ⟨h6, fun e he => (h e he).lc, fun e he => (h e he).dot, fun e he k => ?_, fun e he => ?_⟩
  · have := (small_gD (h e he).sm k).inn.scale (k := 12)
    exact In.mono (this : In 12 24 _) (by decide)
  · rw [← (h e he).dot]
    exact (dot_in (h e he).sm hp w).mono (by omega)
def boundBody (pl ti : Nat) : Ss := (.cons (.set 9 (.call pl (.cons (.slot 9) (.cons (.call ti (.cons (.idx (.slot 8) (.slot 10)) (.cons (.idx (.slot 4) (.slot 10)) .nil)) []) .nil)) [])) .nil)
def eqnsTail (pl ti : Nat) : Ss := (.cons (.set 9 (.tup (.cons (.cint 0) (.cons (.cint 1) .nil)))) (.cons (.forS [10] (.rng1 (.slot 2)) (boundBody pl ti)) (.cons (.app 5 (.tup (.cons (.slot 8) (.cons (.slot 9) .nil)))) .nil)))
def eqnsBody (ro ce pl ti : Nat) : Ss := (.cons (.set 7 (.call ro (.cons (.call ce (.cons (.slot 0) (.cons (.bin .add (.slot 1) (.slot 6)) .nil)) []) (.cons (.bin .add (.slot 2) (.cint 2)) (.cons (.cint 1000) .nil))) [])) (.cons (.set 8 (.comp (.tup (.cons (.bin .sub (.bin .mod (.idx (.slot 7) (.slot 10)) (.cint 5)) (.cint 2)) (.cons (.cint 1) .nil))) [10] (.rng1 (.slot 2)) .nil [10])) (.cons (.ifS (.and (.cons (.cmp .ne (.slot 5) (.lst .nil)) (.cons (.cmp .eq (.bin .mod (.idx (.slot 7) (.slot 2)) (.cint 4)) (.cint 0)) .nil))) (.cons (.set 11 (.idx (.idx (.slot 5) (.bin .mod (.bin .fdiv (.idx (.slot 7) (.slot 2)) (.cint 4)) (.prim .len (.cons (.slot 5) .nil)))) (.cint 0))) (.cons (.set 8 (.comp (.call ti (.cons (.tup (.cons (.bin .sub (.bin .mod (.idx (.slot 7) (.bin .add (.slot 2) (.cint 1))) (.cint 3)) (.cint 1)) (.cons (.cint 1) .nil))) (.cons (.slot 12) .nil)) []) [12] (.seq (.slot 11)) .nil [12])) .nil)) .nil) (eqnsTail pl ti))))
def eqnsFd (ro ce pl ti : Nat) : Fd := ⟨5, 13, (.cons (.setM 5 (.lst .nil)) (.cons (.forS [6] (.rng1 (.slot 3)) (eqnsBody ro ce pl ti)) (.cons (.frz 5) (.cons (.ret (.slot 5)) .nil))))⟩
section
variable {Φ : Nat → List D → Option D} {wf : Nat} {ρ : Rho}
theorem comp_seq_map {α : Type} {f g : α → D} {xs : List α} {elt e : E} {j : Nat} {d : D} (ha : evE Φ e ρ = some d) (hd : lst? d = some (xs.map f)) (hn : xs.length ≤ line)
    (h : ∀ x ∈ xs, (evE Φ elt (ρ.set j (.val (f x)))).bind pure? = some (g x)) : evE Φ (.comp elt [j] (.seq e) .nil [j]) ρ = some (.lst (xs.map g)) := by
  rw [ev_comp]
  simp only [evIt_seq, ha, hd]
  have : compM (stepC Φ elt [j] .nil [j] ρ) (xs.map f) = some (xs.map g) := by
    clear ha hd hn
    induction xs with
    | nil => rfl
    | cons x xs ih =>
      have h1 := h x (List.mem_cons_self ..)
      have h2 := ih fun y hy => h y (List.mem_cons_of_mem _ hy)
      have h3 : stepC Φ elt [j] .nil [j] ρ (f x) = some (some (g x)) := by simp only [stepC, wipeR_one, setTg_name, List.set_set, evTs_nil, h1]
      rw [List.map_cons, List.map_cons]
      unfold compM
      rw [h3, h2]
  rw [this]
  simp [hn]
theorem bound_loop {ov pl ti w : Nat} (O : Ops Φ ov pl ti) (hw : w ≤ 5) {c pt : List Rat} (hc : c.length = w) (sc : ∀ x ∈ c, Small x) (hp : Pt w pt) (a0 a1 a2 a3 a5 a6 a7 a11 a12 : SV) : ∀ (m k : Nat) (x10 : SV), k + m = w → ∃ x10',
    forM (stepF Φ wf [10] (boundBody pl ti)) ((List.range' k m).map fun (k : Nat) => D.int (k : Int)) [a0, a1, a2, a3, .val (frs pt), a5, a6, a7, .val (frs c), .val (fr (dot k (gD c) (gD pt))), x10, a11, a12] =
      some (.nx [a0, a1, a2, a3, .val (frs pt), a5, a6, a7, .val (frs c), .val (fr (dot w (gD c) (gD pt))), x10', a11, a12])
  | 0, k, x10, e => ⟨x10, by rw [← e]; rfl⟩
  | m + 1, k, x10, e => by
    have hl0 : (List.range' k (m + 1)).map (fun (k : Nat) => D.int (k : Int)) = .int (k : Int) :: (List.range' (k + 1) m).map fun (k : Nat) => D.int (k : Int) := rfl
    have hkc : k < c.length := by omega
    have hkp : k < pt.length := by rw [hp.len]; omega
    have s1 : Sz 12 (gD pt k) := (hp.at k).sz (by decide) (by decide) (by decide)
    have s2 : Sz 2 (gD c k) := (small_gD sc k).sz
    have s3 : Sz 12 (dot k (gD c) (gD pt)) := (dot_in sc hp k).sz (by decide) (by decide) (by omega)
    have t1 := O.ti (gD c k) (gD pt k) (s2.mono (by decide)) (s1.mono (by decide))
    have t2 := O.pl (dot k (gD c) (gD pt)) (gD c k * gD pt k) (s3.mono (by decide)) ((s2.mul s1).mono (by decide))
    have hst : stepF Φ wf [10] (boundBody pl ti) (.int (k : Int)) [a0, a1, a2, a3, .val (frs pt), a5, a6, a7, .val (frs c), .val (fr (dot k (gD c) (gD pt))), x10, a11, a12] =
        some (.nx [a0, a1, a2, a3, .val (frs pt), a5, a6, a7, .val (frs c), .val (fr (dot k (gD c) (gD pt) + gD c k * gD pt k)), .val (.int (k : Int)), a11, a12]) := by
      generalize dot k (gD c) (gD pt) = B at *
      simp [stepF, boundBody, ix_frs' hkc, ix_frs' hkp, t1, t2]
    rw [hl0, forM_cons, hst]
    exact bound_loop O hw hc sc hp a0 a1 a2 a3 a5 a6 a7 a11 a12 m (k + 1) (.val (.int (k : Int))) (by omega)
theorem tail_run {ov pl ti w : Nat} (O : Ops Φ ov pl ti) (hw : w ≤ 5) {c pt : List Rat} (hc : c.length = w) (sc : ∀ x ∈ c, Small x) (hp : Pt w pt) {es : List Eqn} (he : es.length ≤ 6) (a0 a1 a3 a6 a7 a9 a10 a11 a12 : SV) : ∃ a9' a10',
    evSs Φ wf (eqnsTail pl ti) [a0, a1, .val (.int (w : Int)), a3, .val (frs pt), .mls (es.map eqnD), a6, a7, .val (frs c), a9, a10, a11, a12] =
      some (.nx [a0, a1, .val (.int (w : Int)), a3, .val (frs pt), .mls ((es ++ [Eqn.mk c (dot w (gD c) (gD pt))]).map eqnD), a6, a7, .val (frs c), a9', a10', a11, a12]) := by
  obtain ⟨x10', hloop⟩ := bound_loop (wf := wf) O hw hc sc hp a0 a1 (.val (.int (w : Int))) a3 (.mls (es.map eqnD)) a6 a7 a11 a12 w 0 a10 (by omega)
  have h5 := okRng_nat (n := w) (Nat.le_trans hw (by decide))
  have h6 : rng 0 (w : Int) = (List.range' 0 w).map fun (k : Nat) => D.int (k : Int) := by rw [rng_nat, List.range_eq_range']
  have h2 : (2 : Nat) ≤ line := by decide
  have h7 : fr (dot 0 (gD c) (gD pt)) = D.tup [.int 0, .int 1] := rfl
  have h8 : es.length < line := Nat.lt_of_le_of_lt he (by decide)
  have h9 : (es ++ [Eqn.mk c (dot w (gD c) (gD pt))]).map eqnD = es.map eqnD ++ [D.tup [frs c, fr (dot w (gD c) (gD pt))]] := by simp [eqnD]
  rw [h7] at hloop
  refine ⟨.val (fr (dot w (gD c) (gD pt))), x10', ?_⟩
  rw [h9]
  generalize dot w (gD c) (gD pt) = B at *
  simp [eqnsTail, evS_forF, h2, h5, h6, hloop, h8]
theorem eqns_turn {ro ce ov pl ti w : Nat} (O : Ops Φ ov pl ti) (hw : w ≤ 5) {pt : List Rat} (hp : Pt w pt) {S : D} {k : Nat}
    (hS : pure? S = some S)
    (hro : ∀ z : Int, ∃ ds : List Int, ds.length = w + 2 ∧ Φ ro [.int z, .int ((w + 2 : Nat) : Int), .int 1000] = some (.lst (ds.map .int)))
    (hce : ∀ k : Nat, ∃ z : Int, Φ ce [S, .int (k : Int)] = some (.int z))
    {es : List Eqn} (hn : es.length ≤ 6) (he : ∀ e ∈ es, Good w pt e) (a3 a6 a7 a8 a9 a10 a11 a12 : SV) : ∃ e a7' a8' a9' a10' a11', Good w pt e ∧
    stepF Φ wf [6] (eqnsBody ro ce pl ti) (.int (k : Int)) [.val S, .val (.int 2), .val (.int (w : Int)), a3, .val (frs pt), .mls (es.map eqnD), a6, a7, a8, a9, a10, a11, a12] =
      some (.nx [.val S, .val (.int 2), .val (.int (w : Int)), a3, .val (frs pt), .mls ((es ++ [e]).map eqnD), .val (.int (k : Int)), a7', a8', a9', a10', a11', a12]) := by
  obtain ⟨z, hz⟩ := hce (2 + k)
  obtain ⟨ds, hds, hdr⟩ := hro z
  have hz' : Φ ce [S, .int (2 + (k : Int))] = some (.int z) := hz
  have hdr' : Φ ro [.int z, .int ((w : Int) + 2), .int 1000] = some (.lst (ds.map .int)) := hdr
  have hwl : w ≤ line := Nat.le_trans hw (by decide)
  have h2 : (2 : Nat) ≤ line := by decide
  have h0 : (0 : Nat) ≤ line := Nat.zero_le _
  have hat : ∀ i : Nat, i < w + 2 → ixD (.lst (ds.map .int)) (.int (i : Int)) = some (.int (ds.getD i 0)) := fun i hi => ix_lst (by
    rw [List.getElem?_map, List.getElem?_eq_getElem (by omega), List.getD_eq_getElem?_getD, List.getElem?_eq_getElem (by omega)]; rfl)
  have hrow : evE Φ (.comp (.tup (.cons (.bin .sub (.bin .mod (.idx (.slot 7) (.slot 10)) (.cint 5)) (.cint 2)) (.cons (.cint 1) .nil))) [10] (.rng1 (.slot 2)) .nil [10])
      [.val S, .val (.int 2), .val (.int (w : Int)), a3, .val (frs pt), .mls (es.map eqnD), .val (.int (k : Int)), .val (.lst (ds.map .int)), a8, a9, a10, a11, a12] = some (frs ((List.range w).map fun i => (((ds.getD i 0).fmod 5 - 2 : Int) : Rat))) := by
    rw [comp_range (n := w) (g := fun i => fr (((ds.getD i 0).fmod 5 - 2 : Int) : Rat))]
    · simp [frs]
    · simp
    · exact hwl
    · intro i hi
      have h3 := hat i (by omega)
      have h4 := fr_int ((ds.getD i 0).fmod 5 - 2)
      generalize ds.getD i 0 = X at *
      generalize D.lst (ds.map .int) = DS at *
      simp only [List.set_cons_succ, List.set_cons_zero, List.set_nil]
      simp [h3, h2, bin_mod, -Rat.intCast_sub]
      rw [h4]
  have hsm1 : ∀ x ∈ (List.range w).map fun i => (((ds.getD i 0).fmod 5 - 2 : Int) : Rat), Small x := by
    intro x hx
    obtain ⟨i, _, rfl⟩ := List.mem_map.mp hx
    have := fmod_small (a := ds.getD i 0) (m := 5) (by decide)
    exact ⟨_, rfl, by omega⟩
  have hlen1 : ((List.range w).map fun i => (((ds.getD i 0).fmod 5 - 2 : Int) : Rat)).length = w := by simp
  have okE : okDs 4 (es.map eqnD) = true := okDs_of fun d hd => by
    obtain ⟨e, _, rfl⟩ := List.mem_map.mp hd
    show okDs 3 [frs e.c, fr e.b] = true
    exact okDs_of fun d hd => by
      simp at hd
      rcases hd with rfl | rfl
      · exact ok_frs _ 1
      · exact ok_fr _ 2
  have hne := ne_own okE (by decide)
  have hP : pure? (D.lst (ds.map D.int)) = some (D.lst (ds.map D.int)) := rfl
  have hw0 := hat w (by omega)
  have hw1 := hat (w + 1) (by omega)
  have hw1' : ixD (.lst (ds.map .int)) (.int ((w : Int) + 1)) = some (.int (ds.getD (w + 1) 0)) := hw1
  generalize (List.range w).map (fun i => (((ds.getD i 0).fmod 5 - 2 : Int) : Rat)) = c1 at *
  generalize ds.getD w 0 = X at *
  generalize ds.getD (w + 1) 0 = Y at *
  by_cases hcond : es ≠ [] ∧ X.fmod 4 = 0
  · obtain ⟨hes, hX⟩ := hcond
    have hpos : 0 < es.length := List.length_pos_iff.mpr hes
    have hi := fmod_small (a := X.fdiv 4) (m := (es.length : Int)) (by omega)
    obtain ⟨i, hi'⟩ : ∃ i : Nat, (X.fdiv 4).fmod (es.length : Int) = (i : Int) := ⟨((X.fdiv 4).fmod (es.length : Int)).toNat, by omega⟩
    have hil : i < es.length := by omega
    have hix : ixD (.own (es.map eqnD)) (.int (i : Int)) = some (eqnD es[i]) := ix_own (by simp [hil])
    have hg := he es[i] (List.getElem_mem hil)
    have hne' : es.isEmpty = false := by simp [hes]
    have hlne : ((es.length : Int)) ≠ 0 := by omega
    have hbm : binD .mod (.int (X.fdiv 4)) (.int (es.length : Int)) = some (.int (i : Int)) := by rw [bin_mod hlne, hi']
    have hf := fmod_small (a := Y) (m := 3) (by decide)
    have hrow2 : evE Φ (.comp (.call ti (.cons (.tup (.cons (.bin .sub (.bin .mod (.idx (.slot 7) (.bin .add (.slot 2) (.cint 1))) (.cint 3)) (.cint 1)) (.cons (.cint 1) .nil))) (.cons (.slot 12) .nil)) []) [12] (.seq (.slot 11)) .nil [12])
        [.val S, .val (.int 2), .val (.int (w : Int)), a3, .val (frs pt), .mls (es.map eqnD), .val (.int (k : Int)), .val (.lst (ds.map .int)), .val (frs c1), a9, a10, .val (frs es[i].c), a12] = some (frs (es[i].c.map fun x => ((Y.fmod 3 - 1 : Int) : Rat) * x)) := by
      rw [comp_seq_map (f := fr) (xs := es[i].c) (g := fun x => fr (((Y.fmod 3 - 1 : Int) : Rat) * x)) (d := frs es[i].c) (by simp) rfl (by rw [hg.lc]; exact hwl)]
      · simp [frs]
      · intro x hx
        have h4 := fr_int (Y.fmod 3 - 1)
        have s1 : Sz 2 (((Y.fmod 3 - 1 : Int) : Rat)) := Small.sz ⟨_, rfl, by omega⟩
        have t1 := O.ti (((Y.fmod 3 - 1 : Int) : Rat)) x (s1.mono (by decide)) ((hg.sm x hx).sz.mono (by decide))
        generalize ((Y.fmod 3 - 1 : Int) : Rat) = Q at *
        generalize D.lst (ds.map .int) = DS at *
        simp [hw1', bin_mod, h2, h4, t1]
    have hsm2 : ∀ x ∈ es[i].c.map (fun x => ((Y.fmod 3 - 1 : Int) : Rat) * x), Small x := by
      intro x hx
      obtain ⟨y, hy, rfl⟩ := List.mem_map.mp hx
      exact (hg.sm y hy).mul3 (by omega)
    have hlen2 : (es[i].c.map (fun x => ((Y.fmod 3 - 1 : Int) : Rat) * x)).length = w := by rw [List.length_map]; exact hg.lc
    generalize es[i].c.map (fun x => ((Y.fmod 3 - 1 : Int) : Rat) * x) = c2 at *
    obtain ⟨a9', a10', htail⟩ := tail_run (wf := wf) O hw hlen2 hsm2 hp hn (.val S) (.val (.int 2)) a3 (.val (.int (k : Int))) (.val (.lst (ds.map .int))) a9 a10 (.val (frs es[i].c)) a12
    refine ⟨⟨c2, dot w (gD c2) (gD pt)⟩, _, _, a9', a10', _, ⟨hlen2, hsm2, rfl⟩, Eq.trans ?_ htail⟩
    have hlE : (es.map eqnD).length = es.length := List.length_map ..
    have hisE : (es.map eqnD).isEmpty = false := by rw [List.isEmpty_map]; exact hne'
    generalize es.map eqnD = EE at *
    generalize D.lst (ds.map .int) = DS at *
    simp [stepF, eqnsBody, hS, hz', hdr', hP, hrow, hne, hisE, h0, hw0, bin_mod, hX, bin_fdiv (i := X) (j := 4) (by decide) (by decide), hlE, hbm, hix, hrow2]
  · obtain ⟨a9', a10', htail⟩ := tail_run (wf := wf) O hw hlen1 hsm1 hp hn (.val S) (.val (.int 2)) a3 (.val (.int (k : Int))) (.val (.lst (ds.map .int))) a9 a10 a11 a12
    refine ⟨⟨c1, dot w (gD c1) (gD pt)⟩, _, _, a9', a10', _, ⟨hlen1, hsm1, rfl⟩, Eq.trans ?_ htail⟩
    by_cases hes : es = []
    · have hisE : (es.map eqnD).isEmpty = true := by rw [List.isEmpty_map]; simp [hes]
      generalize es.map eqnD = EE at *
      generalize D.lst (ds.map .int) = DS at *
      simp [stepF, eqnsBody, hS, hz', hdr', hP, hrow, hne, hisE, h0]
    · have hX : X.fmod 4 ≠ 0 := fun h => hcond ⟨hes, h⟩
      have hisE : (es.map eqnD).isEmpty = false := by rw [List.isEmpty_map]; simp [hes]
      generalize es.map eqnD = EE at *
      generalize D.lst (ds.map .int) = DS at *
      simp [stepF, eqnsBody, hS, hz', hdr', hP, hrow, hne, hisE, h0, hw0, bin_mod, hX]
theorem run_eqns {tab : List Fd} {t ro ce ov pl ti w N : Nat} (ht : tab[t]? = some (eqnsFd ro ce pl ti)) (O : Ops (run tab wf N) ov pl ti) (hw : w ≤ 5) {pt : List Rat} (hp : Pt w pt) {S : D}
    (hS : pure? S = some S)
    (hro : ∀ z : Int, ∃ ds : List Int, ds.length = w + 2 ∧ run tab wf N ro [.int z, .int ((w + 2 : Nat) : Int), .int 1000] = some (.lst (ds.map .int)))
    (hce : ∀ k : Nat, ∃ z : Int, run tab wf N ce [S, .int (k : Int)] = some (.int z)) {n : Nat} (hn : n ≤ 6) :
    ∃ es : List Eqn, es.length = n ∧ (∀ e ∈ es, Good w pt e) ∧ run tab wf (N + 1) t [S, .int 2, .int (w : Int), .int (n : Int), frs pt] = some (.lst (es.map eqnD)) := by
  have loop : ∀ (m k : Nat) (es : List Eqn) (x6 x7 x8 x9 x10 x11 x12 : SV), k + m = n → es.length = k → (∀ e ∈ es, Good w pt e) → ∃ (fs : List Eqn) (x6' x7' x8' x9' x10' x11' x12' : SV), fs.length = n ∧ (∀ e ∈ fs, Good w pt e) ∧
      forM (stepF (run tab wf N) wf [6] (eqnsBody ro ce pl ti)) ((List.range' k m).map fun (i : Nat) => D.int (i : Int)) [.val S, .val (.int 2), .val (.int (w : Int)), .val (.int (n : Int)), .val (frs pt), .mls (es.map eqnD), x6, x7, x8, x9, x10, x11, x12] =
      some (.nx [.val S, .val (.int 2), .val (.int (w : Int)), .val (.int (n : Int)), .val (frs pt), .mls (fs.map eqnD), x6', x7', x8', x9', x10', x11', x12']) := by
    intro m
    induction m with
    | zero => intro k es x6 x7 x8 x9 x10 x11 x12 e hd hg; exact ⟨es, x6, x7, x8, x9, x10, x11, x12, by omega, hg, rfl⟩
    | succ m ih =>
      intro k es x6 x7 x8 x9 x10 x11 x12 e hd hg
      obtain ⟨e1, x7', x8', x9', x10', x11', hg1, hs⟩ := eqns_turn (wf := wf) (k := k) O hw hp hS hro hce (by omega : es.length ≤ 6) hg (.val (.int (n : Int))) x6 x7 x8 x9 x10 x11 x12
      have hl : (List.range' k (m + 1)).map (fun (i : Nat) => D.int (i : Int)) = .int (k : Int) :: (List.range' (k + 1) m).map fun (i : Nat) => D.int (i : Int) := rfl
      rw [hl, forM_cons, hs]
      refine ih (k + 1) (es ++ [e1]) _ x7' x8' x9' x10' x11' x12 (by omega) (by simp; omega) fun e he => ?_
      rcases List.mem_append.mp he with h | h
      · exact hg e h
      · rw [List.mem_singleton.mp h]; exact hg1
  obtain ⟨fs, x6', x7', x8', x9', x10', x11', x12', hf, hg, hs⟩ := loop n 0 [] .non .non .non .non .non .non .non (by omega) rfl (fun e he => absurd he (by simp))
  refine ⟨fs, hf, hg, run_rt [.val S, .val (.int 2), .val (.int (w : Int)), .val (.int (n : Int)), .val (frs pt), .non, .non, .non, .non, .non, .non, .non, .non] ht rfl rfl ?_⟩
  have h0 : (0 : Nat) ≤ line := Nat.zero_le _
  have h5 := okRng_nat (n := n) (Nat.le_trans hn (by decide))
  have h6 : rng 0 (n : Int) = (List.range' 0 n).map fun (k : Nat) => D.int (k : Int) := by rw [rng_nat, List.range_eq_range']
  rw [List.map_nil] at hs
  generalize hF : fs.map eqnD = FF at *
  simp [eqnsFd, fresh, h0, evS_forF, h5, h6, hs]
end
end MP

/-! polygons in the plane: sums along edges, cuts by lines. No program in sight. -/
namespace MG
abbrev P := Rat × Rat
def cr (u v : P) : Rat := u.1 * v.2 - u.2 * v.1
def turn (a b c : P) : Rat := (b.1 - a.1) * (c.2 - a.2) - (b.2 - a.2) * (c.1 - a.1)
/-- a line with a side: through s and e -/
structure Ln where
  s : P
  e : P
def Ln.at (g : Ln) (p : P) : Rat := turn g.s g.e p
def Ln.ok (g : Ln) : Prop := g.s ≠ g.e
def Ln.rev (g : Ln) : Ln := ⟨g.e, g.s⟩
theorem rev_at (g : Ln) (p : P) : g.rev.at p = - g.at p := by
  show turn g.e g.s p = - turn g.s g.e p
  unfold turn; grind
theorem rev_ok {g : Ln} (h : g.ok) : g.rev.ok := fun e => h e.symm
theorem ne_dir {a b : P} (h : a ≠ b) : b.1 - a.1 ≠ 0 ∨ b.2 - a.2 ≠ 0 := by
  by_cases h1 : b.1 - a.1 = 0
  · refine .inr fun h2 => h ?_
    refine Prod.ext ?_ ?_ <;> grind
  · exact .inl h1
/-- two vectors across a third one, not 0, are along each other -/
theorem cr_zero {dx dy ux uy vx vy : Rat} (hd : dx ≠ 0 ∨ dy ≠ 0) (h1 : dx * uy - dy * ux = 0) (h2 : dx * vy - dy * vx = 0) : ux * vy - uy * vx = 0 := by
  rcases hd with hd | hd
  · have : dx * (ux * vy - uy * vx) = 0 := by grind
    rcases Rat.mul_eq_zero.mp this with h | h
    · exact absurd h hd
    · exact h
  · have : dy * (ux * vy - uy * vx) = 0 := by grind
    rcases Rat.mul_eq_zero.mp this with h | h
    · exact absurd h hd
    · exact h
/-- all points on one line (not a point) turn by 0 -/
theorem on_line {s e a b c : P} (h : s ≠ e) (ha : turn s e a = 0) (hb : turn s e b = 0) (hc : turn s e c = 0) : turn a b c = 0 := by
  have hd := ne_dir h
  unfold turn at *
  have h1 : (e.1 - s.1) * (b.2 - a.2) - (e.2 - s.2) * (b.1 - a.1) = 0 := by grind
  have h2 : (e.1 - s.1) * (c.2 - a.2) - (e.2 - s.2) * (c.1 - a.1) = 0 := by grind
  exact cr_zero hd h1 h2
theorem turn_rot (a b c : P) : turn b c a = turn a b c := by unfold turn; grind
theorem turn_swap (a b c : P) : turn b a c = - turn a b c := by unfold turn; grind
theorem turn_cb (a b c : P) : turn a c b = - turn a b c := by unfold turn; grind
theorem turn_aab (a b : P) : turn a a b = 0 := by unfold turn; grind
theorem turn_aba (a b : P) : turn a b a = 0 := by unfold turn; grind
theorem turn_abb (a b : P) : turn a b b = 0 := by unfold turn; grind
/-- where the side from a to b meets g -/
def meet (a b : P) (ga gb : Rat) : P := (a.1 + ga / (ga - gb) * (b.1 - a.1), a.2 + ga / (ga - gb) * (b.2 - a.2))
def Ln.meet (g : Ln) (a b : P) : P := MG.meet a b (g.at a) (g.at b)
theorem div_mul' {x y : Rat} (h : y ≠ 0) : x / y * y = x := Rat.div_mul_cancel h
theorem meet_turn (g : Ln) (a b : P) : turn a b (g.meet a b) = 0 := by
  unfold Ln.meet meet
  generalize g.at a / (g.at a - g.at b) = t
  unfold turn
  grind
/-- an affine thing at the meeting -/
theorem at_meet (g h : Ln) (a b : P) : h.at (g.meet a b) = h.at a + g.at a / (g.at a - g.at b) * (h.at b - h.at a) := by
  unfold Ln.meet meet
  generalize g.at a / (g.at a - g.at b) = t
  unfold Ln.at turn
  grind
theorem meet_on (g : Ln) {a b : P} (h : g.at a ≠ g.at b) : g.at (g.meet a b) = 0 := by
  rw [at_meet]
  have hne : g.at a - g.at b ≠ 0 := fun e => h (by grind)
  have := div_mul' (x := g.at a) hne
  grind
theorem meet_a (g : Ln) {a b : P} (h : g.at a = 0) : g.meet a b = a := by
  unfold Ln.meet meet
  rw [h]
  refine Prod.ext ?_ ?_
  · show a.1 + 0 / (0 - g.at b) * (b.1 - a.1) = a.1
    rw [Rat.div_def]; grind
  · show a.2 + 0 / (0 - g.at b) * (b.2 - a.2) = a.2
    rw [Rat.div_def]; grind
/-- the meeting is the only point of both lines -/
theorem uniq (g : Ln) {a c x y : P} (hx : turn a c x = 0) (hy : turn a c y = 0) (gx : g.at x = 0) (gy : g.at y = 0) (h : g.at a ≠ g.at c) : x = y := by
  unfold Ln.at turn at *
  have hk : (c.1 - a.1) * (g.e.2 - g.s.2) - (c.2 - a.2) * (g.e.1 - g.s.1) ≠ 0 := fun e => h (by grind)
  have h1 : (c.1 - a.1) * (x.2 - y.2) - (c.2 - a.2) * (x.1 - y.1) = 0 := by grind
  have h2 : (g.e.1 - g.s.1) * (x.2 - y.2) - (g.e.2 - g.s.2) * (x.1 - y.1) = 0 := by grind
  have h3 : ((c.1 - a.1) * (g.e.2 - g.s.2) - (c.2 - a.2) * (g.e.1 - g.s.1)) * (x.1 - y.1) = 0 := by grind
  have h4 : ((c.1 - a.1) * (g.e.2 - g.s.2) - (c.2 - a.2) * (g.e.1 - g.s.1)) * (x.2 - y.2) = 0 := by grind
  refine Prod.ext ?_ ?_
  · rcases Rat.mul_eq_zero.mp h3 with h | h
    · exact absurd h hk
    · grind
  · rcases Rat.mul_eq_zero.mp h4 with h | h
    · exact absurd h hk
    · grind
theorem meet_b (g : Ln) {a b : P} (hb : g.at b = 0) (ha : g.at a ≠ 0) : g.meet a b = b :=
  uniq g (meet_turn g a b) (turn_abb a b) (meet_on g (by rw [hb]; exact ha)) hb (by rw [hb]; exact ha)
/-! ### functionals -/
abbrev Fn := P → P → Rat
def CA (T : Fn) : Prop := ∀ a b c, turn a b c = 0 → T a b + T b c = T a c
theorem CA.self {T : Fn} (h : CA T) (a : P) : T a a = 0 := by
  have := h a a a (turn_aab a a)
  grind
theorem CA.anti {T : Fn} (h : CA T) (a b : P) : T b a = - T a b := by
  have h1 := h a b a (turn_aba a b)
  have h2 := h.self a
  grind
theorem ca_cr : CA cr := by
  intro a b c h
  unfold turn at h
  unfold cr
  grind
/-- the functional behind a cut by g, with r on the line -/
def clipT (g : Ln) (r : P) (T : Fn) : Fn := fun a b =>
  if 0 ≤ g.at a then (if 0 ≤ g.at b then T a b else T a (g.meet a b) + T (g.meet a b) r)
  else (if 0 ≤ g.at b then T r (g.meet a b) + T (g.meet a b) b else 0)
theorem clipT_ii {g : Ln} {r : P} {T : Fn} {a b : P} (ha : 0 ≤ g.at a) (hb : 0 ≤ g.at b) : clipT g r T a b = T a b := by unfold clipT; rw [if_pos ha, if_pos hb]
theorem clipT_io {g : Ln} {r : P} {T : Fn} {a b : P} (ha : 0 ≤ g.at a) (hb : ¬ 0 ≤ g.at b) : clipT g r T a b = T a (g.meet a b) + T (g.meet a b) r := by unfold clipT; rw [if_pos ha, if_neg hb]
theorem clipT_oi {g : Ln} {r : P} {T : Fn} {a b : P} (ha : ¬ 0 ≤ g.at a) (hb : 0 ≤ g.at b) : clipT g r T a b = T r (g.meet a b) + T (g.meet a b) b := by unfold clipT; rw [if_neg ha, if_pos hb]
theorem clipT_oo {g : Ln} {r : P} {T : Fn} {a b : P} (ha : ¬ 0 ≤ g.at a) (hb : ¬ 0 ≤ g.at b) : clipT g r T a b = 0 := by unfold clipT; rw [if_neg ha, if_neg hb]
theorem meet_swap (g : Ln) {a b : P} (h : g.at a ≠ g.at b) : g.meet b a = g.meet a b :=
  uniq g (a := a) (c := b) (by rw [turn_swap b a, meet_turn]; rfl) (meet_turn g a b) (meet_on g (Ne.symm h)) (meet_on g h) h
/-- points on one line with a side in and a side out: the meetings are one -/
theorem meet_same (g : Ln) {a b c d : P} (hab : g.at a ≠ g.at b) (hcd : g.at c ≠ g.at d) (h1 : turn a b c = 0) (h2 : turn a b d = 0) : g.meet c d = g.meet a b := by
  have hab' : a ≠ b := fun e => hab (by rw [e])
  have hcd' : c ≠ d := fun e => hcd (by rw [e])
  have hc : turn c d a = 0 := on_line hab' h1 h2 (turn_aba a b)
  have hd : turn c d b = 0 := on_line hab' h1 h2 (turn_abb a b)
  exact uniq g (a := a) (c := b) (on_line hcd' hc hd (meet_turn g c d)) (meet_turn g a b) (meet_on g hcd) (meet_on g hab) hab
theorem ca_clip {g : Ln} {r : P} {T : Fn} (h : CA T) : CA (clipT g r T) := by
  intro a b c ht
  -- any three of a, b, c, x are on a line where a and c or another pair differ
  by_cases ha : 0 ≤ g.at a <;> by_cases hb : 0 ≤ g.at b <;> by_cases hc : 0 ≤ g.at c
  · rw [clipT_ii ha hb, clipT_ii hb hc, clipT_ii ha hc]; exact h a b c ht
  · have n1 : g.at a ≠ g.at c := fun e => hc (e ▸ ha)
    have n2 : g.at b ≠ g.at c := fun e => hc (e ▸ hb)
    have nac : a ≠ c := fun e => n1 (by rw [e])
    have e1 : turn a c b = 0 := by rw [turn_cb, ht]; rfl
    rw [clipT_ii ha hb, clipT_io hb hc, clipT_io ha hc, meet_same g n1 n2 e1 (turn_abb a c)]
    have := h a b (g.meet a c) (on_line nac (turn_aba a c) e1 (meet_turn g a c))
    grind
  · have n1 : g.at a ≠ g.at b := fun e => hb (e ▸ ha)
    have n2 : g.at b ≠ g.at c := fun e => hb (e ▸ hc)
    have nab : a ≠ b := fun e => n1 (by rw [e])
    rw [clipT_io ha hb, clipT_oi hb hc, clipT_ii ha hc, meet_same g n1 n2 (turn_abb a b) ht]
    have q1 := h a (g.meet a b) c (on_line nab (turn_aba a b) (meet_turn g a b) ht)
    have q2 := h.anti r (g.meet a b)
    grind
  · have n1 : g.at a ≠ g.at b := fun e => hb (e ▸ ha)
    have n2 : g.at a ≠ g.at c := fun e => hc (e ▸ ha)
    rw [clipT_io ha hb, clipT_oo hb hc, clipT_io ha hc, meet_same g n1 n2 (turn_aba a b) ht]
    grind
  · have n1 : g.at a ≠ g.at b := fun e => ha (e ▸ hb)
    have n2 : g.at a ≠ g.at c := fun e => ha (e ▸ hc)
    have nab : a ≠ b := fun e => n1 (by rw [e])
    rw [clipT_oi ha hb, clipT_ii hb hc, clipT_oi ha hc, meet_same g n1 n2 (turn_aba a b) ht]
    have q1 := h (g.meet a b) b c (on_line nab (meet_turn g a b) (turn_abb a b) ht)
    grind
  · have n1 : g.at a ≠ g.at b := fun e => ha (e ▸ hb)
    have n2 : g.at b ≠ g.at c := fun e => hc (e ▸ hb)
    rw [clipT_oi ha hb, clipT_io hb hc, clipT_oo ha hc, meet_same g n1 n2 (turn_abb a b) ht]
    have q1 := h.anti b (g.meet a b)
    have q2 := h.anti r (g.meet a b)
    grind
  · have n1 : g.at a ≠ g.at c := fun e => ha (e ▸ hc)
    have n2 : g.at b ≠ g.at c := fun e => hb (e ▸ hc)
    have e1 : turn a c b = 0 := by rw [turn_cb, ht]; rfl
    rw [clipT_oo ha hb, clipT_oi hb hc, clipT_oi ha hc, meet_same g n1 n2 e1 (turn_abb a c)]
    grind
  · rw [clipT_oo ha hb, clipT_oo hb hc, clipT_oo ha hc]; grind
end MG

/-! cuts of closed polygons and sums along them. -/
namespace MG
def opp (g : Ln) (a b : P) : Prop := (g.at a < 0 ∧ 0 < g.at b) ∨ (0 < g.at a ∧ g.at b < 0)
instance (g : Ln) (a b : P) : Decidable (opp g a b) := inferInstanceAs (Decidable (_ ∨ _))
def piece (g : Ln) (a b : P) : List P := (if 0 ≤ g.at a then [a] else []) ++ (if opp g a b then [g.meet a b] else [])
def clipW (g : Ln) : P → List P → List P
  | _, [] => []
  | a, b :: bs => piece g a b ++ clipW g b bs
def clip (g : Ln) : List P → List P
  | [] => []
  | p :: ps => clipW g p (ps ++ [p])
def walk (T : Fn) : P → List P → Rat
  | _, [] => 0
  | a, b :: bs => T a b + walk T b bs
def cyc (T : Fn) : List P → Rat
  | [] => 0
  | p :: ps => walk T p (ps ++ [p])
def lastD : P → List P → P
  | a, [] => a
  | _, b :: bs => lastD b bs
def sm (T : Fn) : List P → Rat
  | [] => 0
  | x :: xs => walk T x xs
theorem sm_cons (T : Fn) (a b : P) (t : List P) : sm T (a :: b :: t) = T a b + sm T (b :: t) := rfl
theorem lastD_snoc : ∀ (a : P) (bs : List P) (z : P), lastD a (bs ++ [z]) = z
  | _, [], _ => rfl
  | _, b :: bs, z => lastD_snoc b bs z
theorem walk_snoc (T : Fn) : ∀ (a : P) (bs : List P) (z : P), walk T a (bs ++ [z]) = walk T a bs + T (lastD a bs) z
  | a, [], z => by show T a z + 0 = 0 + T a z; grind
  | a, b :: bs, z => by
    show T a b + walk T b (bs ++ [z]) = T a b + walk T b bs + T (lastD b bs) z
    rw [walk_snoc T b bs z]; grind
section
variable {g : Ln} {r : P} {T : Fn}
def rest (g : Ln) (r a : P) (bs : List P) : List P := clipW g a bs ++ [if 0 ≤ g.at (lastD a bs) then lastD a bs else r]
theorem rest_cons (g : Ln) (r a b : P) (bs : List P) : rest g r a (b :: bs) = piece g a b ++ rest g r b bs := by
  unfold rest
  rw [show clipW g a (b :: bs) = piece g a b ++ clipW g b bs from rfl, show lastD a (b :: bs) = lastD b bs from rfl, List.append_assoc]
theorem rest_in (r : P) : ∀ (a : P) (bs : List P), 0 ≤ g.at a → ∃ t, rest g r a bs = a :: t
  | a, [], h => ⟨[], by unfold rest lastD clipW; rw [if_pos h]; rfl⟩
  | a, b :: bs, h => by
    rw [rest_cons]
    unfold piece
    rw [if_pos h]
    exact ⟨_, rfl⟩
theorem not_opp_ii {a b : P} (ha : 0 ≤ g.at a) (hb : 0 ≤ g.at b) : ¬ opp g a b := by unfold opp; grind
theorem not_opp_oo {a b : P} (ha : ¬ 0 ≤ g.at a) (hb : ¬ 0 ≤ g.at b) : ¬ opp g a b := by unfold opp; grind
theorem rest_out (hr : g.at r = 0) : ∀ (a : P) (bs : List P), ¬ 0 ≤ g.at a → ∃ y t, rest g r a bs = y :: t ∧ g.at y = 0
  | a, [], h => ⟨r, [], by unfold rest lastD clipW; rw [if_neg h]; rfl, hr⟩
  | a, b :: bs, h => by
    rw [rest_cons]
    unfold piece
    rw [if_neg h]
    by_cases ho : opp g a b
    · rw [if_pos ho]
      exact ⟨_, _, rfl, meet_on g (by unfold opp at ho; grind)⟩
    · rw [if_neg ho]
      by_cases hb : 0 ≤ g.at b
      · obtain ⟨t, ht⟩ := rest_in r b bs hb
        exact ⟨b, t, by simpa using ht, by unfold opp at ho; grind⟩
      · obtain ⟨y, t, ht, hy⟩ := rest_out hr b bs hb
        exact ⟨y, t, by simpa using ht, hy⟩
theorem line_sum (hg : g.ok) (h : CA T) {x y z : P} (hx : g.at x = 0) (hy : g.at y = 0) (hz : g.at z = 0) : T x y + T y z = T x z := h x y z (on_line hg hx hy hz)
theorem path (hg : g.ok) (h : CA T) (hr : g.at r = 0) : ∀ (bs : List P) (a : P), (if 0 ≤ g.at a then sm T (rest g r a bs) else sm T (r :: rest g r a bs)) = walk (clipT g r T) a bs
  | [], a => by
    by_cases ha : 0 ≤ g.at a
    · rw [if_pos ha]; unfold rest lastD clipW; rw [if_pos ha]; rfl
    · rw [if_neg ha]; unfold rest lastD clipW; rw [if_neg ha]
      show T r r + 0 = 0
      rw [h.self]; grind
  | b :: bs, a => by
    have ih := path hg h hr bs b
    have hw : walk (clipT g r T) a (b :: bs) = clipT g r T a b + walk (clipT g r T) b bs := rfl
    rw [hw, ← ih, rest_cons]
    unfold piece
    by_cases ha : 0 ≤ g.at a <;> by_cases hb : 0 ≤ g.at b
    · rw [if_pos ha, if_pos hb, if_pos ha, if_neg (not_opp_ii ha hb), clipT_ii ha hb]
      obtain ⟨t, ht⟩ := rest_in r b bs hb
      rw [ht]; rfl
    · rw [if_pos ha, if_neg hb, if_pos ha, clipT_io ha hb]
      obtain ⟨y, t, ht, hy⟩ := rest_out hr b bs hb
      rw [ht]
      have hne : g.at a ≠ g.at b := fun e => hb (e ▸ ha)
      have hx := meet_on g hne
      by_cases ho : opp g a b
      · rw [if_pos ho]
        have := line_sum hg h hx hr hy
        show T a (g.meet a b) + (T (g.meet a b) y + sm T (y :: t)) = _ + (T r y + sm T (y :: t))
        grind
      · rw [if_neg ho]
        have h0 : g.at a = 0 := by unfold opp at ho; grind
        rw [meet_a g h0, h.self]
        have := line_sum hg h h0 hr hy
        show T a y + sm T (y :: t) = _ + (T r y + sm T (y :: t))
        grind
    · rw [if_neg ha, if_pos hb, if_neg ha, clipT_oi ha hb]
      obtain ⟨t, ht⟩ := rest_in r b bs hb
      rw [ht]
      by_cases ho : opp g a b
      · rw [if_pos ho]
        show T r (g.meet a b) + (T (g.meet a b) b + sm T (b :: t)) = _
        grind
      · rw [if_neg ho]
        have h0 : g.at b = 0 := by unfold opp at ho; grind
        rw [meet_b g h0 (fun e => ha (by rw [e]; decide)), h.self]
        show T r b + sm T (b :: t) = _
        grind
    · rw [if_neg ha, if_neg hb, if_neg ha, if_neg (not_opp_oo ha hb), clipT_oo ha hb]
      show sm T (r :: rest g r b bs) = 0 + _
      grind
theorem last_out : ∀ (bs : List P) (a : P), ¬ 0 ≤ g.at (lastD a bs) → ∀ y t, clipW g a bs = y :: t → g.at (lastD y t) = 0
  | [], a, _, y, t, e => by cases e
  | b :: bs, a, hz, y, t, e => by
    have e' : piece g a b ++ clipW g b bs = y :: t := e
    cases hE : clipW g b bs with
    | cons y' t' =>
      have ih := last_out bs b hz y' t' hE
      rw [hE] at e'
      -- the last of y :: t is the last of y' :: t'
      have app : ∀ (xs : List P) (y' : P) (t' : List P) (y : P) (t : List P), xs ++ y' :: t' = y :: t → lastD y t = lastD y' t' := by
        intro xs
        induction xs with
        | nil => intro y' t' y t e; cases e; rfl
        | cons x xs ih2 =>
          intro y' t' y t e
          cases xs with
          | nil => cases e; rfl
          | cons x2 xs2 =>
            cases e
            exact ih2 y' t' x2 (xs2 ++ y' :: t') rfl
      rw [app _ _ _ _ _ e']; exact ih
    | nil =>
      have hb : ¬ 0 ≤ g.at b := by
        intro hb
        cases bs with
        | nil => exact hz hb
        | cons c cs =>
          have : clipW g b (c :: cs) = piece g b c ++ clipW g c cs := rfl
          rw [this] at hE
          unfold piece at hE
          rw [if_pos hb] at hE
          simp at hE
      rw [hE, List.append_nil] at e'
      unfold piece at e'
      by_cases ho : opp g a b
      · have hx : g.at (g.meet a b) = 0 := meet_on g (by unfold opp at ho; grind)
        rw [if_pos ho] at e'
        by_cases ha : 0 ≤ g.at a
        · rw [if_pos ha] at e'; cases e'; exact hx
        · rw [if_neg ha] at e'; cases e'; exact hx
      · rw [if_neg ho] at e'
        by_cases ha : 0 ≤ g.at a
        · rw [if_pos ha] at e'; cases e'
          show g.at a = 0
          unfold opp at ho; grind
        · rw [if_neg ha] at e'; cases e'
/-- the sum behind a cut is the sum of the cut functional -/
theorem cyc_clip (hg : g.ok) (h : CA T) (hr : g.at r = 0) : ∀ X : List P, cyc T (clip g X) = cyc (clipT g r T) X
  | [] => rfl
  | p :: ps => by
    have hp := path hg h hr (ps ++ [p]) p
    show cyc T (clipW g p (ps ++ [p])) = walk (clipT g r T) p (ps ++ [p])
    rw [← hp]
    have hl := lastD_snoc p ps p
    by_cases hi : 0 ≤ g.at p
    · rw [if_pos hi]
      unfold rest
      rw [hl, if_pos hi]
      obtain ⟨t, ht⟩ : ∃ t, clipW g p (ps ++ [p]) = p :: t := by
        cases ps with
        | nil => exact ⟨_, by show piece g p p ++ [] = _; unfold piece; rw [if_pos hi]; rfl⟩
        | cons q qs => exact ⟨_, by show piece g p q ++ clipW g q (qs ++ [p]) = _; unfold piece; rw [if_pos hi]; rfl⟩
      rw [ht]; rfl
    · rw [if_neg hi]
      unfold rest
      rw [hl, if_neg hi]
      have lo := last_out (ps ++ [p]) p (by rw [hl]; exact hi)
      have ro := rest_out hr p (ps ++ [p]) hi
      unfold rest at ro
      rw [hl, if_neg hi] at ro
      cases hE : clipW g p (ps ++ [p]) with
      | nil =>
        show 0 = T r r + 0
        rw [h.self]; grind
      | cons y t =>
        rw [hE] at ro
        obtain ⟨y', t', e, hy⟩ := ro
        cases e
        have hly := lo y t hE
        show walk T y (t ++ [y]) = T r y + walk T y (t ++ [r])
        rw [walk_snoc, walk_snoc]
        have := line_sum hg h hly hr hy
        grind
end
theorem walk_add (T U : Fn) : ∀ (a : P) (bs : List P), walk T a bs + walk U a bs = walk (fun x y => T x y + U x y) a bs
  | _, [] => by show (0 : Rat) + 0 = 0; grind
  | a, b :: bs => by
    show T a b + walk T b bs + (U a b + walk U b bs) = T a b + U a b + walk _ b bs
    rw [← walk_add T U b bs]; grind
theorem walk_tel (T : Fn) (f : P → Rat) : ∀ (a : P) (bs : List P), walk (fun x y => T x y + f x - f y) a bs = walk T a bs + f a - f (lastD a bs)
  | a, [] => by show (0 : Rat) = 0 + f a - f a; grind
  | a, b :: bs => by
    show T a b + f a - f b + walk _ b bs = T a b + walk T b bs + f a - f (lastD b bs)
    rw [walk_tel T f b bs]; grind
theorem rev_meet (g : Ln) {a b : P} (h : g.at a ≠ g.at b) : g.rev.meet a b = g.meet a b := by
  have h' : g.rev.at a ≠ g.rev.at b := by rw [rev_at, rev_at]; grind
  refine uniq g (a := a) (c := b) (meet_turn g.rev a b) (meet_turn g a b) ?_ (meet_on g h) h
  have := meet_on g.rev h'
  rw [rev_at] at this
  grind
theorem two_sides {g : Ln} {r : P} {T : Fn} (hg : g.ok) (hr : g.at r = 0) (h : CA T) (a b : P) : clipT g r T a b + clipT g.rev r T a b = T a b + (if g.at a = 0 then T a r else 0) - (if g.at b = 0 then T b r else 0) := by
  have ra := rev_at g a
  have rb := rev_at g b
  have mid : ∀ x, turn a b x = 0 → T a x + T x b = T a b := fun x hx => h a x b (by rw [turn_cb, hx]; rfl)
  rcases (by grind : g.at a = 0 ∨ 0 < g.at a ∨ g.at a < 0) with ha | ha | ha <;> rcases (by grind : g.at b = 0 ∨ 0 < g.at b ∨ g.at b < 0) with hb | hb | hb
  · rw [clipT_ii (by grind) (by grind), clipT_ii (by grind) (by grind), if_pos ha, if_pos hb]
    have := line_sum hg h ha hb hr
    grind
  · rw [clipT_ii (by grind) (by grind), clipT_io (by grind) (by grind), if_pos ha, if_neg (by grind), meet_a g.rev (by grind), h.self]
    grind
  · rw [clipT_io (by grind) (by grind), clipT_ii (by grind) (by grind), if_pos ha, if_neg (by grind), meet_a g ha, h.self]
    grind
  · rw [clipT_ii (by grind) (by grind), clipT_oi (by grind) (by grind), if_neg (by grind), if_pos hb, meet_b g.rev (by grind) (by grind), h.self, h.anti b r]
    grind
  · rw [clipT_ii (by grind) (by grind), clipT_oo (by grind) (by grind), if_neg (by grind), if_neg (by grind)]
    grind
  · rw [clipT_io (by grind) (by grind), clipT_oi (by grind) (by grind), if_neg (by grind), if_neg (by grind), rev_meet g (by grind), ← mid _ (meet_turn g a b), h.anti r (g.meet a b)]
    grind
  · rw [clipT_oi (by grind) (by grind), clipT_ii (by grind) (by grind), if_neg (by grind), if_pos hb, meet_b g hb (by grind), h.self, h.anti b r]
    grind
  · rw [clipT_oi (by grind) (by grind), clipT_io (by grind) (by grind), if_neg (by grind), if_neg (by grind), rev_meet g (by grind), ← mid _ (meet_turn g a b), h.anti r (g.meet a b)]
    grind
  · rw [clipT_oo (by grind) (by grind), clipT_ii (by grind) (by grind), if_neg (by grind), if_neg (by grind)]
    grind
theorem cyc_split {g : Ln} {T : Fn} (hg : g.ok) (h : CA T) (X : List P) : cyc T X = cyc T (clip g X) + cyc T (clip g.rev X) := by
  have hr : g.at g.s = 0 := turn_aba _ _
  have hr' : g.rev.at g.s = 0 := by rw [rev_at, hr]; rfl
  rw [cyc_clip hg h hr X, cyc_clip (rev_ok hg) h hr' X]
  cases X with
  | nil => show (0 : Rat) = 0 + 0; grind
  | cons p ps =>
    show walk T p (ps ++ [p]) = walk _ p (ps ++ [p]) + walk _ p (ps ++ [p])
    rw [walk_add]
    have : (fun x y => clipT g g.s T x y + clipT g.rev g.s T x y) = fun x y => T x y + (fun a => if g.at a = 0 then T a g.s else 0) x - (fun a => if g.at a = 0 then T a g.s else 0) y := by
      funext x y; exact two_sides hg hr h x y
    rw [this, walk_tel, lastD_snoc]; grind
/-! ### many cuts -/
def flt (X : List P) : List P := if 2 < X.length then X else []
theorem cyc_flt {T : Fn} (h : CA T) (X : List P) : cyc T (flt X) = cyc T X := by
  unfold flt
  by_cases hl : 2 < X.length
  · rw [if_pos hl]
  · rw [if_neg hl]
    match X, hl with
    | [], _ => rfl
    | [a], _ => show (0 : Rat) = T a a + 0; rw [h.self]; grind
    | [a, b], _ => show (0 : Rat) = T a b + (T b a + 0); rw [h.anti a b]; grind
    | a :: b :: c :: t, hl => exact absurd (by simp) hl
def Tl : List Ln → Fn → Fn
  | [], T => T
  | g :: gs, T => clipT g g.s (Tl gs T)
theorem ca_tl {T : Fn} (h : CA T) : ∀ gs, CA (Tl gs T)
  | [] => h
  | g :: gs => ca_clip (ca_tl h gs)
def clips (gs : List Ln) (X : List P) : List P := gs.foldl (fun X g => flt (clip g X)) X
def clipsL (gs : List Ln) (X : List P) : List P := gs.foldl (fun X g => clip g X) X
theorem on_s (g : Ln) : g.at g.s = 0 := turn_aba _ _
theorem cyc_clips {T : Fn} (h : CA T) : ∀ (gs : List Ln), (∀ g ∈ gs, g.ok) → ∀ X, cyc T (clips gs X) = cyc (Tl gs T) X
  | [], _, _ => rfl
  | g :: gs, ok, X => by
    show cyc T (clips gs (flt (clip g X))) = cyc (clipT g g.s (Tl gs T)) X
    rw [cyc_clips h gs (fun x hx => ok x (List.mem_cons_of_mem _ hx)), cyc_flt (ca_tl h gs), cyc_clip (ok g (List.mem_cons_self ..)) (ca_tl h gs) (on_s g)]
theorem cyc_clipsL {T : Fn} (h : CA T) : ∀ (gs : List Ln), (∀ g ∈ gs, g.ok) → ∀ X, cyc T (clipsL gs X) = cyc (Tl gs T) X
  | [], _, _ => rfl
  | g :: gs, ok, X => by
    show cyc T (clipsL gs (clip g X)) = cyc (clipT g g.s (Tl gs T)) X
    rw [cyc_clipsL h gs (fun x hx => ok x (List.mem_cons_of_mem _ hx)), cyc_clip (ok g (List.mem_cons_self ..)) (ca_tl h gs) (on_s g)]
theorem tl_append (T : Fn) : ∀ gs hs : List Ln, Tl (gs ++ hs) T = Tl gs (Tl hs T)
  | [], _ => rfl
  | g :: gs, hs => by show clipT g g.s (Tl (gs ++ hs) T) = _; rw [tl_append T gs hs]; rfl
/-! ### pieces -/
def outs : List Ln → List P → List (List P)
  | [], _ => []
  | g :: gs, X => (if (flt (clip g.rev X)).isEmpty then [] else [flt (clip g.rev X)]) ++ outs gs (flt (clip g X))
def cutOut (gs : List Ln) (X : List P) : List (List P) := if (clips gs X).isEmpty then [X] else outs gs X
def tot (T : Fn) (Xs : List (List P)) : Rat := (Xs.map (cyc T)).sum
theorem tot_nil (T : Fn) : tot T [] = 0 := rfl
theorem tot_cons (T : Fn) (X : List P) (Xs : List (List P)) : tot T (X :: Xs) = cyc T X + tot T Xs := by simp [tot]
theorem tot_append (T : Fn) : ∀ Xs Ys : List (List P), tot T (Xs ++ Ys) = tot T Xs + tot T Ys
  | [], Ys => by rw [List.nil_append, tot_nil]; grind
  | X :: Xs, Ys => by rw [List.cons_append, tot_cons, tot_cons, tot_append T Xs Ys]; grind
theorem tot_outs {T : Fn} (h : CA T) : ∀ (gs : List Ln), (∀ g ∈ gs, g.ok) → ∀ X, tot T (outs gs X) = cyc T X - cyc T (clips gs X)
  | [], _, X => by show (0 : Rat) = cyc T X - cyc T X; grind
  | g :: gs, ok, X => by
    have ih := tot_outs h gs (fun x hx => ok x (List.mem_cons_of_mem _ hx)) (flt (clip g X))
    have sp := cyc_split (ok g (List.mem_cons_self ..)) h X
    rw [show clips (g :: gs) X = clips gs (flt (clip g X)) from rfl]
    rw [show outs (g :: gs) X = (if (flt (clip g.rev X)).isEmpty then [] else [flt (clip g.rev X)]) ++ outs gs (flt (clip g X)) from rfl, tot_append, ih, cyc_flt h (clip g X)]
    have e : tot T (if (flt (clip g.rev X)).isEmpty then [] else [flt (clip g.rev X)]) = cyc T (clip g.rev X) := by
      rw [← cyc_flt h (clip g.rev X)]
      cases flt (clip g.rev X) with
      | nil => rfl
      | cons x xs => show tot T [x :: xs] = _; rw [tot_cons, tot_nil]; grind
    rw [e]; grind
theorem tot_cutOut {T : Fn} (h : CA T) {gs : List Ln} (ok : ∀ g ∈ gs, g.ok) (X : List P) : tot T (cutOut gs X) = cyc T X - cyc (Tl gs T) X := by
  rw [← cyc_clips h gs ok]
  unfold cutOut
  cases hc : clips gs X with
  | nil =>
    show tot T [X] = cyc T X - 0
    rw [tot_cons, tot_nil]; grind
  | cons y ys =>
    show tot T (outs gs X) = _
    rw [tot_outs h gs ok, hc]
def cutAll (gs : List Ln) (Xs : List (List P)) : List (List P) := Xs.foldl (fun r X => r ++ cutOut gs X) []
theorem tot_foldl {T : Fn} (h : CA T) {gs : List Ln} (ok : ∀ g ∈ gs, g.ok) : ∀ (Xs acc : List (List P)), tot T (Xs.foldl (fun r X => r ++ cutOut gs X) acc) = tot T acc + tot T Xs - tot (Tl gs T) Xs
  | [], acc => by show tot T acc = tot T acc + 0 - 0; grind
  | X :: Xs, acc => by
    show tot T (Xs.foldl _ (acc ++ cutOut gs X)) = _
    rw [tot_foldl h ok Xs, tot_append, tot_cutOut h ok, tot_cons, tot_cons]; grind
theorem tot_cutAll {T : Fn} (h : CA T) {gs : List Ln} (ok : ∀ g ∈ gs, g.ok) (Xs : List (List P)) : tot T (cutAll gs Xs) = tot T Xs - tot (Tl gs T) Xs := by
  unfold cutAll
  rw [tot_foldl h ok, tot_nil]; grind
def pieces (Qs : List (List Ln)) (X : List P) : List (List P) := Qs.foldl (fun r gs => cutAll gs r) [X]
/-! ### inside -/
def Ins (h : Ln) (X : List P) : Prop := ∀ p ∈ X, 0 ≤ h.at p
theorem meet_ins {g h : Ln} {a b : P} (ha : 0 ≤ h.at a) (hb : 0 ≤ h.at b) (o : opp g a b) : 0 ≤ h.at (g.meet a b) := by
  rw [at_meet]
  have key : ∀ x y : Rat, 0 < x → y < 0 → 0 ≤ x / (x - y) ∧ x / (x - y) ≤ 1 := by
    intro x y hx hy
    have hd : 0 < x - y := by grind
    have hi : 0 < (x - y)⁻¹ := Rat.inv_pos.mpr hd
    have e : (x - y) * (x - y)⁻¹ = 1 := Rat.mul_inv_cancel _ (by grind)
    rw [Rat.div_def]
    have h1 : 0 ≤ x * (x - y)⁻¹ := Rat.mul_nonneg (by grind) (by grind)
    have h2 : 0 ≤ (-y) * (x - y)⁻¹ := Rat.mul_nonneg (by grind) (by grind)
    exact ⟨h1, by grind⟩
  have comb : ∀ t : Rat, 0 ≤ t → t ≤ 1 → 0 ≤ h.at a + t * (h.at b - h.at a) := by
    intro t h0 h1
    have q1 : 0 ≤ t * h.at b := Rat.mul_nonneg h0 hb
    have q2 : 0 ≤ (1 - t) * h.at a := Rat.mul_nonneg (by grind) ha
    grind
  rcases o with ⟨h1, h2⟩ | ⟨h1, h2⟩
  · have e : g.at a / (g.at a - g.at b) = 1 - g.at b / (g.at b - g.at a) := by
      have hd : g.at a - g.at b ≠ 0 := by grind
      have hd2 : g.at b - g.at a ≠ 0 := by grind
      have e1 := div_mul' (x := g.at a) hd
      have e2 := div_mul' (x := g.at b) hd2
      have : (g.at a / (g.at a - g.at b) - (1 - g.at b / (g.at b - g.at a))) * (g.at a - g.at b) = 0 := by grind
      rcases Rat.mul_eq_zero.mp this with h | h
      · grind
      · exact absurd h hd
    have := key (g.at b) (g.at a) h2 h1
    exact comb _ (by grind) (by grind)
  · have := key (g.at a) (g.at b) h1 h2
    exact comb _ this.1 this.2
theorem clipW_ins {g h : Ln} : ∀ (a : P) (bs : List P), 0 ≤ h.at a → Ins h bs → Ins h (clipW g a bs)
  | _, [], _, _ => fun p hp => absurd hp (by simp [clipW])
  | a, b :: bs, ha, hb => by
    intro p hp
    have hp' : p ∈ piece g a b ++ clipW g b bs := hp
    rcases List.mem_append.mp hp' with hp | hp
    · unfold piece at hp
      rcases List.mem_append.mp hp with hp | hp
      · split at hp
        · rw [List.mem_singleton.mp hp]; exact ha
        · cases hp
      · split at hp
        · rw [List.mem_singleton.mp hp]; exact meet_ins ha (hb b (List.mem_cons_self ..)) (by assumption)
        · cases hp
    · exact clipW_ins b bs (hb b (List.mem_cons_self ..)) (fun x hx => hb x (List.mem_cons_of_mem _ hx)) p hp
theorem clip_ins {g h : Ln} {X : List P} (hX : Ins h X) : Ins h (clip g X) := by
  cases X with
  | nil => exact hX
  | cons p ps =>
    refine clipW_ins p (ps ++ [p]) (hX p (List.mem_cons_self ..)) fun x hx => ?_
    rcases List.mem_append.mp hx with hx | hx
    · exact hX x (List.mem_cons_of_mem _ hx)
    · rw [List.mem_singleton.mp hx]; exact hX p (List.mem_cons_self ..)
theorem flt_ins {h : Ln} {X : List P} (hX : Ins h X) : Ins h (flt X) := by
  unfold flt
  split
  · exact hX
  · exact fun p hp => absurd hp (by simp)
theorem outs_ins {h : Ln} : ∀ (gs : List Ln) (X : List P), Ins h X → ∀ Y ∈ outs gs X, Ins h Y
  | [], _, _, Y, hY => absurd hY (by simp [outs])
  | g :: gs, X, hX, Y, hY => by
    rcases List.mem_append.mp (show Y ∈ (if (flt (clip g.rev X)).isEmpty then [] else [flt (clip g.rev X)]) ++ outs gs (flt (clip g X)) from hY) with h | h
    · split at h
      · cases h
      · rw [List.mem_singleton.mp h]; exact flt_ins (clip_ins hX)
    · exact outs_ins gs _ (flt_ins (clip_ins hX)) Y h
theorem cutOut_ins {h : Ln} {gs : List Ln} {X : List P} (hX : Ins h X) : ∀ Y ∈ cutOut gs X, Ins h Y := by
  intro Y hY
  unfold cutOut at hY
  split at hY
  · rw [List.mem_singleton.mp hY]; exact hX
  · exact outs_ins gs X hX Y hY
theorem cutAll_ins {h : Ln} {gs : List Ln} : ∀ (Xs acc : List (List P)), (∀ X ∈ Xs, Ins h X) → (∀ X ∈ acc, Ins h X) → ∀ Y ∈ Xs.foldl (fun r X => r ++ cutOut gs X) acc, Ins h Y
  | [], acc, _, ha => ha
  | X :: Xs, acc, hX, ha => cutAll_ins Xs _ (fun Z hZ => hX Z (List.mem_cons_of_mem _ hZ)) fun Z hZ => by
    rcases List.mem_append.mp hZ with h | h
    · exact ha Z h
    · exact cutOut_ins (hX X (List.mem_cons_self ..)) Z h
theorem pieces_ins {h : Ln} : ∀ (Qs : List (List Ln)) (Xs : List (List P)), (∀ X ∈ Xs, Ins h X) → ∀ Y ∈ Qs.foldl (fun r gs => cutAll gs r) Xs, Ins h Y
  | [], _, hX => hX
  | Q :: Qs, Xs, hX => pieces_ins Qs _ (cutAll_ins Xs [] hX fun X hX => absurd hX (by simp))
theorem walk_ins {g : Ln} {r : P} {T : Fn} : ∀ (a : P) (bs : List P), 0 ≤ g.at a → Ins g bs → walk (clipT g r T) a bs = walk T a bs
  | _, [], _, _ => rfl
  | a, b :: bs, ha, hb => by
    show clipT g r T a b + walk _ b bs = T a b + walk T b bs
    rw [clipT_ii ha (hb b (List.mem_cons_self ..)), walk_ins b bs (hb b (List.mem_cons_self ..)) fun x hx => hb x (List.mem_cons_of_mem _ hx)]
theorem cyc_ins {g : Ln} {r : P} {T : Fn} {X : List P} (h : Ins g X) : cyc (clipT g r T) X = cyc T X := by
  cases X with
  | nil => rfl
  | cons p ps =>
    refine walk_ins p _ (h p (List.mem_cons_self ..)) fun x hx => ?_
    rcases List.mem_append.mp hx with hx | hx
    · exact h x (List.mem_cons_of_mem _ hx)
    · rw [List.mem_singleton.mp hx]; exact h p (List.mem_cons_self ..)
theorem cyc_tl_ins {T : Fn} : ∀ (gs : List Ln) (X : List P), (∀ g ∈ gs, Ins g X) → cyc (Tl gs T) X = cyc T X
  | [], _, _ => rfl
  | g :: gs, X, h => by
    show cyc (clipT g g.s (Tl gs T)) X = _
    rw [cyc_ins (h g (List.mem_cons_self ..)), cyc_tl_ins gs X fun x hx => h x (List.mem_cons_of_mem _ hx)]
theorem tot_same {T U : Fn} : ∀ Xs : List (List P), (∀ X ∈ Xs, cyc T X = cyc U X) → tot T Xs = tot U Xs
  | [], _ => rfl
  | X :: Xs, h => by rw [tot_cons, tot_cons, h X (List.mem_cons_self ..), tot_same Xs fun Y hY => h Y (List.mem_cons_of_mem _ hY)]
/-! ### what the law asks -/
theorem without_0 (X : List P) : tot cr (pieces [] X) = cyc cr X := by
  show tot cr [X] = _
  rw [tot_cons, tot_nil]; grind
theorem without_1 {Q : List Ln} (ok : ∀ g ∈ Q, g.ok) (X : List P) : tot cr (pieces [Q] X) = cyc cr X - cyc cr (clipsL Q X) := by
  show tot cr (cutAll Q [X]) = _
  rw [tot_cutAll ca_cr ok, tot_cons, tot_cons, tot_nil, tot_nil, cyc_clipsL ca_cr Q ok]; grind
theorem without_2 {Q1 Q2 : List Ln} (ok1 : ∀ g ∈ Q1, g.ok) (ok2 : ∀ g ∈ Q2, g.ok) (X : List P) :
    tot cr (pieces [Q1, Q2] X) = cyc cr X - cyc cr (clipsL Q1 X) - cyc cr (clipsL Q2 X) + cyc cr (clipsL Q2 (clipsL Q1 X)) := by
  show tot cr (cutAll Q2 (cutAll Q1 [X])) = _
  rw [tot_cutAll ca_cr ok2, tot_cutAll ca_cr ok1, tot_cutAll (ca_tl ca_cr Q2) ok1, tot_cons, tot_cons, tot_cons, tot_cons, tot_nil, tot_nil, tot_nil, tot_nil,
    cyc_clipsL ca_cr Q1 ok1, cyc_clipsL ca_cr Q2 ok2, cyc_clipsL ca_cr Q2 ok2, cyc_clipsL (ca_tl ca_cr Q2) Q1 ok1]; grind
theorem without_self {Qs : List (List Ln)} {F : List Ln} {X : List P} (ok : ∀ g ∈ F, g.ok) (hF : ∀ g ∈ F, Ins g X) : tot cr (pieces (Qs ++ [F]) X) = 0 := by
  show tot cr ((Qs ++ [F]).foldl (fun r gs => cutAll gs r) [X]) = 0
  rw [List.foldl_append]
  show tot cr (cutAll F (Qs.foldl (fun r gs => cutAll gs r) [X])) = 0
  rw [tot_cutAll ca_cr ok]
  have : tot (Tl F cr) (Qs.foldl (fun r gs => cutAll gs r) [X]) = tot cr (Qs.foldl (fun r gs => cutAll gs r) [X]) := tot_same _ fun Y hY => cyc_tl_ins F Y fun g hg => pieces_ins Qs [X] (fun Z hZ => by rw [List.mem_singleton.mp hZ]; exact hF g hg) Y hY
  rw [this]; grind
end MG

/-! hulls: the chain of turns. -/
namespace MG
def lt2 (a b : P) : Prop := a.1 < b.1 ∨ (a.1 = b.1 ∧ a.2 < b.2)
instance (a b : P) : Decidable (lt2 a b) := inferInstanceAs (Decidable (_ ∨ _))
theorem lt2_irr (a : P) : ¬ lt2 a a := by unfold lt2; grind
theorem lt2_trans {a b c : P} (h : lt2 a b) (h' : lt2 b c) : lt2 a c := by unfold lt2 at *; grind
theorem lt2_asymm {a b : P} (h : lt2 a b) : ¬ lt2 b a := fun h' => lt2_irr a (lt2_trans h h')
theorem lt2_eq {a b : P} (h : ¬ lt2 a b) (h' : ¬ lt2 b a) : a = b := by
  unfold lt2 at *
  refine Prod.ext ?_ ?_ <;> grind
theorem lt2_ne {a b : P} (h : lt2 a b) : a ≠ b := fun e => lt2_irr a (by rw [e] at h; rw [e]; exact h)
theorem lt2_ge {a b c : P} (h : ¬ lt2 b a) (h' : lt2 b c) : lt2 a c := by unfold lt2 at *; grind
/-- to the right, or straight up -/
def lp (x y : Rat) : Prop := 0 < x ∨ (x = 0 ∧ 0 < y)
theorem lp_of {a b : P} (h : lt2 a b) : lp (b.1 - a.1) (b.2 - a.2) := by unfold lt2 at h; unfold lp; grind
theorem pos_of {a b : Rat} (ha : 0 < a) (h : 0 < a * b) : 0 < b := by
  refine Classical.byContradiction fun hb => ?_
  have := Rat.mul_nonneg (a := a) (b := -b) (by grind) (by grind)
  grind
theorem nneg_of {a b : Rat} (ha : 0 < a) (h : 0 ≤ a * b) : 0 ≤ b := by
  refine Classical.byContradiction fun hb => ?_
  have := Rat.mul_pos (a := a) (b := -b) ha (by grind)
  grind
section
variable {ux uy vx vy wx wy : Rat}
theorem tr1 (hu : lp ux uy) (hv : lp vx vy) (hw : lp wx wy) (h1 : 0 ≤ ux * vy - uy * vx) (h2 : 0 < vx * wy - vy * wx) : 0 < ux * wy - uy * wx := by
  have id : vx * (ux * wy - uy * wx) = ux * (vx * wy - vy * wx) + wx * (ux * vy - uy * vx) := by grind
  rcases hv with hv | ⟨hv, hv'⟩
  · rcases hu with hu | ⟨hu, hu'⟩
    · refine pos_of hv ?_
      have q1 := Rat.mul_pos hu h2
      have q2 := Rat.mul_nonneg (a := wx) (b := ux * vy - uy * vx) (by unfold lp at hw; grind) h1
      grind
    · have q := Rat.mul_pos hu' hv
      subst hu
      grind
  · have q := Rat.mul_nonneg (a := vy) (b := wx) (by grind) (by unfold lp at hw; grind)
    subst hv
    grind
theorem tr2 (hu : lp ux uy) (hv : lp vx vy) (hw : lp wx wy) (h1 : 0 < ux * vy - uy * vx) (h2 : 0 ≤ vx * wy - vy * wx) : 0 < ux * wy - uy * wx := by
  have id : vx * (ux * wy - uy * wx) = ux * (vx * wy - vy * wx) + wx * (ux * vy - uy * vx) := by grind
  rcases hv with hv | ⟨hv, hv'⟩
  · rcases hu with hu | ⟨hu, hu'⟩
    · refine pos_of hv ?_
      rcases hw with hw | ⟨hw, hw'⟩
      · have q1 := Rat.mul_pos hw h1
        have q2 := Rat.mul_nonneg (a := ux) (by grind) h2
        grind
      · have q1 := Rat.mul_pos hv hw'
        subst hw
        have q2 := Rat.mul_pos hu (b := vx * wy - vy * 0) (by grind)
        grind
    · have q := Rat.mul_pos hu' hv
      subst hu
      grind
  · subst hv
    rcases hw with hw | ⟨hw, hw'⟩
    · have q := Rat.mul_pos hv' hw
      grind
    · have hux : 0 < ux := pos_of hv' (by grind)
      have q := Rat.mul_pos hux hw'
      subst hw
      grind
theorem tr0 (hu : lp ux uy) (hv : lp vx vy) (hw : 0 < wx ∨ (wx = 0 ∧ 0 ≤ wy)) (h1 : 0 ≤ ux * vy - uy * vx) (h2 : 0 ≤ vx * wy - vy * wx) : 0 ≤ ux * wy - uy * wx := by
  have id : vx * (ux * wy - uy * wx) = ux * (vx * wy - vy * wx) + wx * (ux * vy - uy * vx) := by grind
  rcases hv with hv | ⟨hv, hv'⟩
  · refine nneg_of hv ?_
    have q1 := Rat.mul_nonneg (a := ux) (by unfold lp at hu; grind) h2
    have q2 := Rat.mul_nonneg (a := wx) (by grind) h1
    grind
  · subst hv
    have hwx : wx = 0 := by
      rcases hw with hw | hw
      · have q := Rat.mul_pos hv' hw
        grind
      · exact hw.1
    have q := Rat.mul_nonneg (a := ux) (b := wy) (by unfold lp at hu; grind) (by grind)
    subst hwx
    grind
end
/-! ### the stack -/
def Good (S : List P) (a b : P) : Prop := ∀ c ∈ S, 0 ≤ turn a b c ∧ (turn a b c = 0 → ¬ lt2 c a ∧ ¬ lt2 b c)
def RS (S : List P) (a b : P) : Prop := lt2 a b ∧ Good S a b
def Ch (R : P → P → Prop) : List P → Prop
  | b :: a :: r => R a b ∧ Ch R (a :: r)
  | _ => True
def pop (p : P) : List P → List P
  | b :: a :: r => if turn a b p ≤ 0 then pop p (a :: r) else b :: a :: r
  | st => st
def chainR (row : List P) : List P := row.foldl (fun st p => p :: pop p st) []
def J (S : List P) (t p : P) : Prop := ∀ c ∈ S, ¬ lt2 c t → 0 ≤ turn t p c
theorem good_pos {S : List P} {a b c : P} (h : Good S a b) (hc : c ∈ S) (hbc : lt2 b c) : 0 < turn a b c := by
  have := h c hc
  refine Classical.byContradiction fun hn => (this.2 (by grind)).2 hbc
theorem pop_ok {S : List P} {p : P} (hp : ∀ c ∈ S, lt2 c p) : ∀ (r : List P) (t : P), Ch (RS S) (t :: r) → (∀ q ∈ t :: r, q ∈ S) → J S t p →
    ∃ t' r', pop p (t :: r) = t' :: r' ∧ Ch (RS S) (t' :: r') ∧ J S t' p ∧ (∀ a r'', r' = a :: r'' → 0 < turn a t' p) ∧ lastD t r = lastD t' r' ∧ ∀ q ∈ t' :: r', q ∈ t :: r
  | [], t, hc, hm, hj => ⟨t, [], rfl, hc, hj, (fun _ _ e => by cases e), rfl, fun q h => h⟩
  | a :: r, b, hc, hm, hj => by
    unfold pop
    by_cases ht : turn a b p ≤ 0
    · rw [if_pos ht]
      obtain ⟨⟨hab, hg⟩, hc'⟩ := hc
      have hja : J S a p := by
        intro c hcS hca
        by_cases hcb : lt2 c b
        · have h1 := (hg c hcS).1
          have l1 := lp_of (hp a (hm a (by simp)))
          have l2 := lp_of hab
          have l3 : 0 < c.1 - a.1 ∨ (c.1 - a.1 = 0 ∧ 0 ≤ c.2 - a.2) := by unfold lt2 at hca; grind
          have := tr0 l1 l2 l3 (by unfold turn at ht; grind) (by unfold turn at h1; grind)
          unfold turn; grind
        · have h1 := (hg c hcS).1
          have h2 := hj c hcS hcb
          unfold turn at *
          grind
      obtain ⟨t', r', e1, e2, e3, e4, e5, e6⟩ := pop_ok hp r a hc' (fun q hq => hm q (List.mem_cons_of_mem _ hq)) hja
      exact ⟨t', r', e1, e2, e3, e4, e5, fun q hq => List.mem_cons_of_mem _ (e6 q hq)⟩
    · rw [if_neg ht]
      exact ⟨b, a :: r, rfl, hc, hj, (fun _ _ e => by cases e; grind), rfl, fun q h => h⟩
theorem good_more {S : List P} {a b p : P} (h : Good S a b) (hp : 0 < turn a b p) : Good (S ++ [p]) a b := by
  intro c hc
  rcases List.mem_append.mp hc with hc | hc
  · exact h c hc
  · rw [List.mem_singleton.mp hc]
    exact ⟨by grind, fun e => by rw [e] at hp; exact absurd hp (by decide)⟩
theorem old_edges {S : List P} {p : P} (hp : ∀ c ∈ S, lt2 c p) : ∀ (r : List P) (b : P), Ch (RS S) (b :: r) → (∀ q ∈ b :: r, q ∈ S) → (∀ a r', r = a :: r' → 0 < turn a b p) → Ch (RS (S ++ [p])) (b :: r)
  | [], _, _, _, _ => trivial
  | a :: r, b, hc, hm, ht => by
    obtain ⟨⟨hab, hg⟩, hc'⟩ := hc
    have hpos := ht a r rfl
    refine ⟨⟨hab, good_more hg hpos⟩, old_edges hp r a hc' (fun q hq => hm q (List.mem_cons_of_mem _ hq)) fun z r' e => ?_⟩
    subst e
    obtain ⟨⟨hza, hg'⟩, _⟩ := hc'
    have h1 := good_pos hg' (hm b (by simp)) hab
    have := tr1 (lp_of hza) (lp_of hab) (lp_of (hp a (hm a (by simp)))) (by unfold turn at h1; grind) (by unfold turn at hpos; grind)
    unfold turn; grind
structure SI (S : List P) (t : P) (r : List P) : Prop where
  ch : Ch (RS S) (t :: r)
  mem : ∀ q ∈ t :: r, q ∈ S
  top : ∀ c ∈ S, ¬ lt2 t c
  bot : ∀ c ∈ S, ¬ lt2 c (lastD t r)
theorem si_push {S : List P} {t p : P} {r : List P} (h : SI S t r) (hp : ∀ c ∈ S, lt2 c p) : ∃ t' r', pop p (t :: r) = t' :: r' ∧ SI (S ++ [p]) p (t' :: r') ∧ lastD p (t' :: r') = lastD t r := by
  have hj : J S t p := fun c hc hct => by
    rw [lt2_eq hct (h.top c hc), turn_aba]; exact Rat.le_refl
  obtain ⟨t', r', e1, e2, e3, e4, e5, e6⟩ := pop_ok hp r t h.ch h.mem hj
  have hm' : ∀ q ∈ t' :: r', q ∈ S := fun q hq => h.mem q (e6 q hq)
  have htS := hm' t' (by simp)
  have htp := hp t' htS
  refine ⟨t', r', e1, ⟨⟨⟨htp, fun c hc => ?_⟩, old_edges hp r' t' e2 hm' e4⟩, fun q hq => ?_, fun c hc => ?_, fun c hc => ?_⟩, ?_⟩
  · rcases List.mem_append.mp hc with hc | hc
    · by_cases hct : lt2 c t'
      · -- strictly left: behind the top's own edge
        have hpos : 0 < turn t' p c := by
          cases r' with
          | nil =>
            have := h.bot c hc
            rw [e5] at this
            exact absurd hct this
          | cons a r'' =>
            have h4 := e4 a r'' rfl
            obtain ⟨⟨hat, hg⟩, _⟩ := e2
            have h1 := (hg c hc).1
            have := tr1 (lp_of hct) (lp_of hat) (lp_of htp) (by unfold turn at h1; grind) (by unfold turn at h4; grind)
            unfold turn; grind
        exact ⟨by grind, fun e => by rw [e] at hpos; exact absurd hpos (by decide)⟩
      · exact ⟨e3 c hc hct, fun _ => ⟨hct, lt2_asymm (hp c hc)⟩⟩
    · rw [List.mem_singleton.mp hc]
      exact ⟨by rw [turn_abb]; exact Rat.le_refl, fun _ => ⟨lt2_asymm htp, lt2_irr p⟩⟩
  · rcases List.mem_cons.mp hq with rfl | hq
    · exact List.mem_append_right _ (by simp)
    · exact List.mem_append_left _ (hm' q hq)
  · rcases List.mem_append.mp hc with hc | hc
    · exact lt2_asymm (hp c hc)
    · rw [List.mem_singleton.mp hc]; exact lt2_irr p
  · show ¬ lt2 c (lastD t' r')
    rw [← e5]
    have hbS : lastD t r ∈ S := by
      have : ∀ (r : List P) (t : P), lastD t r ∈ t :: r := by
        intro r
        induction r with
        | nil => intro t; simp [lastD]
        | cons x xs ih => intro t; exact List.mem_cons_of_mem _ (ih x)
      exact h.mem _ (this r t)
    rcases List.mem_append.mp hc with hc | hc
    · exact h.bot c hc
    · rw [List.mem_singleton.mp hc]; exact lt2_asymm (hp _ hbS)
  · show lastD t' r' = lastD t r
    rw [e5]
theorem chain_fold : ∀ (rest S : List P) (t : P) (r : List P), SI S t r → (S ++ rest).Pairwise lt2 → ∃ t' r', rest.foldl (fun st p => p :: pop p st) (t :: r) = t' :: r' ∧ SI (S ++ rest) t' r'
  | [], S, t, r, h, _ => ⟨t, r, rfl, by rw [List.append_nil]; exact h⟩
  | p :: rest, S, t, r, h, hs => by
    have hp : ∀ c ∈ S, lt2 c p := fun c hc => (List.pairwise_append.mp hs).2.2 c hc p (by simp)
    obtain ⟨t', r', e, h', _⟩ := si_push h hp
    show ∃ t'' r'', rest.foldl _ (p :: pop p (t :: r)) = _ ∧ _
    rw [e]
    have e2 : S ++ p :: rest = (S ++ [p]) ++ rest := by simp
    rw [e2] at hs ⊢
    exact chain_fold rest (S ++ [p]) p (t' :: r') h' hs
theorem chain_ok {p : P} {row : List P} (hs : (p :: row).Pairwise lt2) : ∃ t r, chainR (p :: row) = t :: r ∧ SI (p :: row) t r := by
  have h0 : SI [p] p [] := ⟨trivial, fun q h => h, fun c hc => by rw [List.mem_singleton.mp hc]; exact lt2_irr p, fun c hc => by rw [List.mem_singleton.mp hc]; exact lt2_irr p⟩
  obtain ⟨t, r, e, h⟩ := chain_fold row [p] p [] h0 hs
  exact ⟨t, r, e, h⟩
end MG

/-! hulls: what the two chains are together. -/
namespace MG
def box (a b c : P) : Prop := ¬ (c.1 < a.1 ∧ c.1 < b.1) ∧ ¬ (a.1 < c.1 ∧ b.1 < c.1) ∧ ¬ (c.2 < a.2 ∧ c.2 < b.2) ∧ ¬ (a.2 < c.2 ∧ b.2 < c.2)
def Side (S : List P) (a b : P) : Prop := a ≠ b ∧ ∀ c ∈ S, 0 ≤ turn a b c ∧ (turn a b c = 0 → box a b c)
theorem box_of {a b c : P} (hab : lt2 a b) (ht : turn a b c = 0) (h1 : ¬ lt2 c a) (h2 : ¬ lt2 b c) : box a b c := by
  unfold turn at ht
  unfold lt2 at hab h1 h2
  unfold box
  rcases hab with hx | ⟨hx, hy⟩
  · have c1 : a.1 ≤ c.1 := by grind
    have c2 : c.1 ≤ b.1 := by grind
    refine ⟨by grind, by grind, fun ⟨k1, k2⟩ => ?_, fun ⟨k1, k2⟩ => ?_⟩
    · have q1 := Rat.mul_pos (a := b.1 - a.1) (b := a.2 - c.2) (by grind) (by grind)
      have q2 := Rat.mul_pos (a := b.1 - a.1) (b := b.2 - c.2) (by grind) (by grind)
      by_cases hs : b.2 < a.2
      · have q3 := Rat.mul_nonneg (a := a.2 - b.2) (b := b.1 - c.1) (by grind) (by grind)
        grind
      · have q3 := Rat.mul_nonneg (a := b.2 - a.2) (b := c.1 - a.1) (by grind) (by grind)
        grind
    · have q1 := Rat.mul_pos (a := b.1 - a.1) (b := c.2 - a.2) (by grind) (by grind)
      have q2 := Rat.mul_pos (a := b.1 - a.1) (b := c.2 - b.2) (by grind) (by grind)
      by_cases hs : b.2 < a.2
      · have q3 := Rat.mul_nonneg (a := a.2 - b.2) (b := c.1 - a.1) (by grind) (by grind)
        grind
      · have q3 := Rat.mul_nonneg (a := b.2 - a.2) (b := b.1 - c.1) (by grind) (by grind)
        grind
  · have c1 : c.1 = a.1 := by grind
    refine ⟨by grind, by grind, by grind, by grind⟩
theorem side_of_rs {S : List P} {a b : P} (h : RS S a b) : Side S a b := ⟨lt2_ne h.1, fun c hc => ⟨(h.2 c hc).1, fun e => box_of h.1 e ((h.2 c hc).2 e).1 ((h.2 c hc).2 e).2⟩⟩
theorem side_unique {S : List P} {a b b' : P} (h : Side S a b) (h' : Side S a b') (hb : b ∈ S) (hb' : b' ∈ S) : b = b' := by
  have h1 := h.2 b' hb'
  have h2 := h'.2 b hb
  have e : turn a b b' = 0 := by
    have := turn_cb a b b'
    grind
  have e' : turn a b' b = 0 := by rw [turn_cb, e]; rfl
  have k1 := h1.2 e
  have k2 := h2.2 e'
  unfold box at k1 k2
  refine Prod.ext ?_ ?_ <;> grind
def nP (p : P) : P := (-p.1, -p.2)
theorem nP_nP (p : P) : nP (nP p) = p := by unfold nP; refine Prod.ext ?_ ?_ <;> grind
theorem turn_n (a b c : P) : turn (nP a) (nP b) (nP c) = turn a b c := by unfold turn nP; grind
theorem lt2_n {a b : P} : lt2 (nP a) (nP b) ↔ lt2 b a := by unfold lt2 nP; grind
theorem box_n {a b c : P} (h : box (nP a) (nP b) (nP c)) : box a b c := by unfold box nP at *; grind
theorem side_n {S : List P} {a b : P} (h : Side (S.map nP) (nP a) (nP b)) : Side S a b := ⟨fun e => h.1 (by rw [e]), fun c hc => by
  have := h.2 (nP c) (List.mem_map_of_mem hc)
  rw [turn_n] at this
  exact ⟨this.1, fun e => box_n (this.2 e)⟩⟩
theorem pop_n (p : P) : ∀ st : List P, pop (nP p) (st.map nP) = (pop p st).map nP
  | [] => rfl
  | [a] => rfl
  | b :: a :: r => by
    show pop (nP p) (nP b :: nP a :: r.map nP) = _
    unfold pop
    rw [turn_n]
    by_cases h : turn a b p ≤ 0
    · rw [if_pos h, if_pos h]; exact pop_n p (a :: r)
    · rw [if_neg h, if_neg h]; rfl
theorem chainR_n (row : List P) : chainR (row.map nP) = (chainR row).map nP := by
  have : ∀ (row st : List P), (row.map nP).foldl (fun st p => p :: pop p st) (st.map nP) = (row.foldl (fun st p => p :: pop p st) st).map nP := by
    intro row
    induction row with
    | nil => intro st; rfl
    | cons p row ih =>
      intro st
      show (row.map nP).foldl _ (nP p :: pop (nP p) (st.map nP)) = _
      rw [pop_n]
      exact ih (p :: pop p st)
  exact this row []
/-! ### paths -/
def Lk (R : P → P → Prop) : P → List P → Prop
  | _, [] => True
  | a, b :: bs => R a b ∧ Lk R b bs
theorem lk_append {R : P → P → Prop} : ∀ (a : P) (bs cs : List P), Lk R a (bs ++ cs) ↔ Lk R a bs ∧ Lk R (lastD a bs) cs
  | a, [], cs => ⟨fun h => ⟨trivial, h⟩, fun h => h.2⟩
  | a, b :: bs, cs => by
    show R a b ∧ Lk R b (bs ++ cs) ↔ (R a b ∧ Lk R b bs) ∧ Lk R (lastD b bs) cs
    rw [lk_append b bs cs, and_assoc]
theorem lk_mono {R R' : P → P → Prop} (h : ∀ a b, R a b → R' a b) : ∀ (a : P) (bs : List P), Lk R a bs → Lk R' a bs
  | _, [], _ => trivial
  | a, b :: bs, ⟨h1, h2⟩ => ⟨h a b h1, lk_mono h b bs h2⟩
theorem lk_map {R : P → P → Prop} (f : P → P) : ∀ (a : P) (bs : List P), Lk R (f a) (bs.map f) → Lk (fun x y => R (f x) (f y)) a bs
  | _, [], _ => trivial
  | a, b :: bs, ⟨h1, h2⟩ => ⟨h1, lk_map f b bs h2⟩
theorem ch_lk {R : P → P → Prop} : ∀ (r : List P) (t : P), Ch R (t :: r) → ∃ a bs, (t :: r).reverse = a :: bs ∧ Lk R a bs ∧ lastD a bs = t ∧ a = lastD t r
  | [], t, _ => ⟨t, [], rfl, trivial, rfl, rfl⟩
  | x :: r, t, h => by
    obtain ⟨h1, h2⟩ := h
    obtain ⟨a, bs, e1, e2, e3, e4⟩ := ch_lk r x h2
    refine ⟨a, bs ++ [t], ?_, ?_, lastD_snoc a bs t, e4⟩
    · rw [List.reverse_cons, e1]; rfl
    · rw [lk_append, e3]; exact ⟨e2, h1, trivial⟩
theorem lk_next {R : P → P → Prop} : ∀ (bs : List P) (a z : P), Lk R a (bs ++ [z]) → ∀ q ∈ a :: bs, ∃ b ∈ bs ++ [z], R q b
  | [], a, z, h, q, hq => ⟨z, by simp, by rw [List.mem_singleton.mp hq]; exact h.1⟩
  | b :: bs, a, z, h, q, hq => by
    rcases List.mem_cons.mp hq with rfl | hq
    · exact ⟨b, by simp, h.1⟩
    · obtain ⟨y, hy, hr⟩ := lk_next bs b z h.2 q hq
      exact ⟨y, List.mem_cons_of_mem _ hy, hr⟩
theorem lk_asc {R : P → P → Prop} (hR : ∀ a b, R a b → lt2 a b) : ∀ (bs : List P) (a : P), Lk R a bs → (a :: bs).Pairwise lt2
  | [], a, _ => by simp
  | b :: bs, a, ⟨h1, h2⟩ => by
    have ih := lk_asc hR bs b h2
    refine List.pairwise_cons.mpr ⟨fun q hq => ?_, ih⟩
    rcases List.mem_cons.mp hq with rfl | hq
    · exact hR _ _ h1
    · exact lt2_trans (hR _ _ h1) ((List.pairwise_cons.mp ih).1 q hq)
theorem lk_desc {R : P → P → Prop} (hR : ∀ a b, R a b → lt2 b a) : ∀ (bs : List P) (a : P), Lk R a bs → (a :: bs).Pairwise (fun x y => lt2 y x)
  | [], a, _ => by simp
  | b :: bs, a, ⟨h1, h2⟩ => by
    have ih := lk_desc hR bs b h2
    refine List.pairwise_cons.mpr ⟨fun q hq => ?_, ih⟩
    rcases List.mem_cons.mp hq with rfl | hq
    · exact hR _ _ h1
    · exact lt2_trans ((List.pairwise_cons.mp ih).1 q hq) (hR _ _ h1)
/-! ### points in order -/
def ins (p : P) : List P → List P
  | [] => [p]
  | q :: qs => if lt2 q p then q :: ins p qs else if q = p then q :: qs else p :: q :: qs
def dedup (pts : List P) : List P := pts.foldl (fun row p => ins p row) []
theorem mem_ins {p x : P} : ∀ {row : List P}, x ∈ ins p row ↔ x = p ∨ x ∈ row
  | [] => by simp [ins]
  | q :: qs => by
    unfold ins
    split
    · rw [List.mem_cons, mem_ins (row := qs), List.mem_cons]
      constructor
      · rintro (h | h | h) <;> simp [h]
      · rintro (h | h | h) <;> simp [h]
    · split
      · rename_i e
        subst e
        simp
      · simp
theorem ins_sorted {p : P} : ∀ {row : List P}, row.Pairwise lt2 → (ins p row).Pairwise lt2
  | [], _ => by simp [ins]
  | q :: qs, h => by
    have h' := List.pairwise_cons.mp h
    unfold ins
    split
    · rename_i hq
      refine List.pairwise_cons.mpr ⟨fun x hx => ?_, ins_sorted h'.2⟩
      rcases mem_ins.mp hx with rfl | hx
      · exact hq
      · exact h'.1 x hx
    · split
      · exact h
      · rename_i hq hne
        have hpq : lt2 p q := Classical.byContradiction fun hn => hne (lt2_eq hq hn)
        refine List.pairwise_cons.mpr ⟨fun x hx => ?_, h⟩
        rcases List.mem_cons.mp hx with rfl | hx
        · exact hpq
        · exact lt2_trans hpq (h'.1 x hx)
theorem dedup_ok (pts : List P) : (dedup pts).Pairwise lt2 ∧ ∀ x, x ∈ dedup pts ↔ x ∈ pts := by
  have : ∀ (pts row : List P), row.Pairwise lt2 → (pts.foldl (fun row p => ins p row) row).Pairwise lt2 ∧ ∀ x, x ∈ pts.foldl (fun row p => ins p row) row ↔ x ∈ row ∨ x ∈ pts := by
    intro pts
    induction pts with
    | nil => intro row h; exact ⟨h, fun x => by simp⟩
    | cons p pts ih =>
      intro row h
      obtain ⟨h1, h2⟩ := ih (ins p row) (ins_sorted h)
      refine ⟨h1, fun x => ?_⟩
      show x ∈ pts.foldl _ (ins p row) ↔ _
      rw [h2, mem_ins, List.mem_cons]
      constructor
      · rintro ((h | h) | h) <;> simp [h]
      · rintro (h | h | h) <;> simp [h]
  obtain ⟨h1, h2⟩ := this pts [] (by simp)
  exact ⟨h1, fun x => by rw [show dedup pts = pts.foldl (fun row p => ins p row) [] from rfl, h2]; simp⟩
/-! ### the hull -/
def chain (row : List P) : List P := (chainR row).reverse
def hull (pts : List P) : List P :=
  flt ((chain (dedup pts)).dropLast ++ (chain (dedup pts).reverse).dropLast)
def Flat (S : List P) : Prop := ∀ a ∈ S, ∀ b ∈ S, ∀ c ∈ S, turn a b c = 0
structure HullOk (pts f : List P) : Prop where
  len : 2 < f.length
  ex : ∃ p ps, f = p :: ps ∧ Lk (Side pts) p (ps ++ [p]) ∧ ∀ c ∈ pts, ¬ lt2 c p
  nd : f.Nodup
  mem : ∀ q ∈ f, q ∈ pts
theorem dropLast_snoc' {α : Type} (xs : List α) (x : α) : (xs ++ [x]).dropLast = xs := by simp
/-- the two halves -/
theorem halves {p : P} {row : List P} (hs : (p :: row).Pairwise lt2) (hne : row ≠ []) : ∃ M L U, chain (p :: row) = p :: L ++ [M] ∧ chain (p :: row).reverse = M :: U ++ [p] ∧
    Lk (RS (p :: row)) p (L ++ [M]) ∧ Lk (fun a b => lt2 b a ∧ Side (p :: row) a b ∧ ∀ c ∈ p :: row, turn a b c = 0 → ¬ lt2 c b) M (U ++ [p]) ∧
    (∀ q ∈ p :: L ++ [M], q ∈ p :: row) ∧ (∀ q ∈ M :: U ++ [p], q ∈ p :: row) ∧ (∀ c ∈ p :: row, ¬ lt2 c p) := by
  have hmin : ∀ c ∈ p :: row, ¬ lt2 c p := fun c hc => by
    rcases List.mem_cons.mp hc with rfl | hc
    · exact lt2_irr _
    · exact lt2_asymm ((List.pairwise_cons.mp hs).1 c hc)
  -- lower
  obtain ⟨t, r, e1, I⟩ := chain_ok hs
  obtain ⟨a, bs, f1, f2, f3, f4⟩ := ch_lk r t I.ch
  have lastm : ∀ (r : List P) (t : P), lastD t r ∈ t :: r := by
    intro r
    induction r with
    | nil => intro t; simp [lastD]
    | cons x xs ih => intro t; exact List.mem_cons_of_mem _ (ih x)
  have ha : a = p := by
    rw [f4]
    exact lt2_eq (hmin _ (I.mem _ (lastm r t))) (I.bot p (by simp))
  subst ha
  -- upper
  have hs' : ((a :: row).reverse.map nP).Pairwise lt2 := by
    rw [List.pairwise_map, List.pairwise_reverse]
    exact hs.imp fun h => lt2_n.mpr h
  obtain ⟨q, row2, er⟩ : ∃ q row2, (a :: row).reverse = q :: row2 := by
    cases h : (a :: row).reverse with
    | nil => simp at h
    | cons q row2 => exact ⟨q, row2, rfl⟩
  rw [er, List.map_cons] at hs'
  obtain ⟨t', r', e1', I'⟩ := chain_ok hs'
  rw [← List.map_cons, ← er, chainR_n] at e1'
  rw [← List.map_cons, ← er] at I'
  have memn : ∀ c, nP c ∈ (a :: row).reverse.map nP ↔ c ∈ a :: row := fun c => by
    rw [List.mem_map]
    constructor
    · rintro ⟨d, hd, e⟩
      have : d = c := by rw [← nP_nP d, e, nP_nP]
      rw [← this]; exact List.mem_reverse.mp hd
    · exact fun h => ⟨c, List.mem_reverse.mpr h, rfl⟩
  obtain ⟨t2, r2, e2⟩ : ∃ t2 r2, chainR (a :: row).reverse = t2 :: r2 := by
    cases h : chainR (a :: row).reverse with
    | nil => rw [h] at e1'; cases e1'
    | cons t2 r2 => exact ⟨t2, r2, rfl⟩
  rw [e2, List.map_cons] at e1'
  cases e1'
  have lastmap : ∀ (r : List P) (t : P), lastD (nP t) (r.map nP) = nP (lastD t r) := by
    intro r
    induction r with
    | nil => intro t; rfl
    | cons x xs ih => intro t; exact ih x
  obtain ⟨a', bs', g1, g2, g3, g4⟩ := ch_lk (r2.map nP) (nP t2) I'.ch
  obtain ⟨u, us, e3⟩ : ∃ u us, (t2 :: r2).reverse = u :: us := by
    cases h : (t2 :: r2).reverse with
    | nil => simp at h
    | cons u us => exact ⟨u, us, rfl⟩
  rw [← List.map_cons, ← List.map_reverse, e3, List.map_cons] at g1
  cases g1
  rw [lastmap] at g3
  have g3 : lastD u us = t2 := by rw [← nP_nP (lastD u us), g3, nP_nP]
  rw [lastmap] at g4
  have g4 : u = lastD t2 r2 := by rw [← nP_nP u, g4, nP_nP]
  -- the greatest
  have huS : u ∈ a :: row := by
    have := I'.mem (nP u) (by rw [g4, ← lastmap]; exact lastm _ _)
    exact (memn u).mp this
  have ht2 : t2 ∈ a :: row := (memn t2).mp (I'.mem _ (by simp))
  have hM : u = t := by
    have hb := I'.bot
    rw [lastmap, ← g4] at hb
    refine lt2_eq (fun h => ?_) (I.top u huS)
    exact hb (nP t) ((memn t).mpr (I.mem t (by simp))) (lt2_n.mpr h)
  have ht2' : t2 = a := by
    refine lt2_eq (hmin t2 ht2) (fun h => ?_)
    exact I'.top (nP a) ((memn a).mpr (by simp)) (lt2_n.mpr h)
  have hta : t ≠ a := by
    intro e
    obtain ⟨x, xs, rfl⟩ : ∃ x xs, row = x :: xs := by
      cases row with
      | nil => exact absurd rfl hne
      | cons x xs => exact ⟨x, xs, rfl⟩
    have h1 := (List.pairwise_cons.mp hs).1 x (by simp)
    exact I.top x (by simp) (by rw [e]; exact h1)
  -- both lists end well
  have split : ∀ (x : P) (xs : List P) (z : P), lastD x xs = z → x ≠ z → ∃ ys, xs = ys ++ [z] := by
    intro x xs z h hn
    rcases List.eq_nil_or_concat xs with rfl | ⟨ys, y, rfl⟩
    · exact absurd h hn
    · rw [List.concat_eq_append, lastD_snoc] at h
      exact ⟨ys, by rw [List.concat_eq_append, h]⟩
  obtain ⟨L, hL⟩ := split a bs t f3 (Ne.symm hta)
  obtain ⟨U, hU⟩ := split u us t2 g3 (by rw [hM, ht2']; exact hta)
  subst hL hU
  have ht2'' := ht2'.symm
  have hM' := hM.symm
  subst ht2''
  subst hM'
  refine ⟨t, L, U, ?_, ?_, f2, ?_, ?_, ?_, hmin⟩
  · show (chainR (a :: row)).reverse = _
    rw [e1, f1]; rfl
  · show (chainR (a :: row).reverse).reverse = _
    rw [e2, e3]; rfl
  · have := lk_map nP t (U ++ [a]) g2
    refine lk_mono (fun x y h => ?_) _ _ this
    have hs := side_of_rs h
    refine ⟨lt2_n.mp h.1, side_n ⟨hs.1, fun c hc => ?_⟩, fun c hc e => ?_⟩
    · obtain ⟨d, hd, rfl⟩ := List.mem_map.mp hc
      exact hs.2 (nP d) ((memn d).mpr hd)
    · have := (h.2 (nP c) ((memn c).mpr hc)).2 (by rw [turn_n]; exact e)
      exact fun k => this.2 (lt2_n.mpr k)
  · intro q hq
    have : q ∈ (t :: r).reverse := by rw [f1]; exact hq
    exact I.mem q (List.mem_reverse.mp this)
  · intro q hq
    have : q ∈ (a :: r2).reverse := by rw [e3]; exact hq
    exact (memn q).mp (I'.mem (nP q) (by rw [← List.map_cons]; exact List.mem_map_of_mem (List.mem_reverse.mp this)))
end MG

/-! hulls: the law's walk along sides; counts of changes. -/
namespace MG
theorem flat_of_line {S : List P} {s e : P} (h : s ≠ e) (ho : ∀ c ∈ S, turn s e c = 0) : Flat S := fun a ha b hb c hc => on_line h (ho a ha) (ho b hb) (ho c hc)
theorem nodup_len {xs : List P} : ∀ {ys : List P}, xs.Nodup → (∀ x ∈ xs, x ∈ ys) → xs.length ≤ ys.length := by
  induction xs with
  | nil => intro ys _ _; exact Nat.zero_le _
  | cons x xs ih =>
    intro ys hn hs
    have hx := hs x (by simp)
    have hn' := List.nodup_cons.mp hn
    have := ih (ys := ys.erase x) hn'.2 fun q hq => (List.mem_erase_of_ne (fun (e : q = x) => hn'.1 (by rw [← e]; exact hq))).mpr (hs q (List.mem_cons_of_mem _ hq))
    rw [List.length_erase_of_mem hx] at this
    have hpos : 0 < ys.length := List.length_pos_of_mem hx
    simp only [List.length_cons]
    omega
theorem side_sub {S S' : List P} {a b : P} (h : Side S a b) (hs : ∀ c ∈ S', c ∈ S) : Side S' a b := ⟨h.1, fun c hc => h.2 c (hs c hc)⟩
theorem hull_spec (pts : List P) : (Flat pts → hull pts = []) ∧ (¬ Flat pts → HullOk pts (hull pts)) := by
  obtain ⟨hs, hm⟩ := dedup_ok pts
  unfold hull
  generalize dedup pts = D at *
  cases D with
  | nil =>
    have he : pts = [] := List.eq_nil_iff_forall_not_mem.mpr fun x hx => by simpa using (hm x).mpr hx
    subst he
    exact ⟨fun _ => rfl, fun h => absurd (fun a ha => absurd ha (by simp)) h⟩
  | cons p row =>
    cases row with
    | nil =>
      have he : ∀ c ∈ pts, c = p := fun c hc => by simpa using (hm c).mpr hc
      refine ⟨fun _ => rfl, fun h => absurd (fun a ha b hb c hc => ?_) h⟩
      rw [he a ha, he b hb, turn_aab]
    | cons q row =>
      obtain ⟨M, L, U, e1, e2, h1, h2, m1, m2, hmin⟩ := halves hs (by simp)
      have e1' : (chain (p :: q :: row)).dropLast = p :: L := by rw [e1, dropLast_snoc']
      have e2' : (chain (p :: q :: row).reverse).dropLast = M :: U := by rw [e2, dropLast_snoc']
      rw [e1', e2']
      have hp : p ∈ p :: q :: row := by simp
      have hM : M ∈ p :: q :: row := m1 M (by simp)
      constructor
      · intro hf
        have hf' : Flat (p :: q :: row) := fun a ha b hb c hc => hf a ((hm a).mp ha) b ((hm b).mp hb) c ((hm c).mp hc)
        have hL : L = [] := by
          cases L with
          | nil => rfl
          | cons z L =>
            obtain ⟨y, hy, hr⟩ := lk_next (z :: L) p M h1 z (by simp)
            have hz : z ∈ p :: q :: row := m1 z (by simp)
            have hyS : y ∈ p :: q :: row := m1 y (List.mem_cons_of_mem _ hy)
            have := good_pos h1.1.2 hyS hr.1
            rw [hf' p hp z hz y hyS] at this
            exact absurd this (by decide)
        have hU : U = [] := by
          cases U with
          | nil => rfl
          | cons z U =>
            obtain ⟨y, hy, hr⟩ := lk_next (z :: U) M p h2 z (by simp)
            have hz : z ∈ p :: q :: row := m2 z (by simp)
            have hyS : y ∈ p :: q :: row := m2 y (List.mem_cons_of_mem _ hy)
            exact absurd hr.1 (h2.1.2.2 y hyS (hf' M hM z hz y hyS))
        subst hL hU
        rfl
      · intro hf
        have hlen : 2 < (p :: L ++ M :: U).length := by
          refine Classical.byContradiction fun hn => hf ?_
          have hL : L = [] := by
            cases L with
            | nil => rfl
            | cons z L => exfalso; apply hn; simp; omega
          have hU : U = [] := by
            cases U with
            | nil => rfl
            | cons z U => exfalso; apply hn; simp; omega
          subst hL hU
          have s1 := side_of_rs h1.1
          have s2 := h2.1.2.1
          refine flat_of_line s1.1 fun c hc => ?_
          have k1 := (s1.2 c ((hm c).mpr hc)).1
          have k2 := (s2.2 c ((hm c).mpr hc)).1
          have := turn_swap p M c
          grind
        have efl : flt (p :: L ++ M :: U) = p :: L ++ M :: U := by unfold flt; rw [if_pos hlen]
        rw [efl]
        have sub : ∀ c ∈ pts, c ∈ p :: q :: row := fun c hc => (hm c).mpr hc
        refine ⟨hlen, ⟨p, L ++ M :: U, rfl, ?_, fun c hc => hmin c (sub c hc)⟩, ?_, fun x hx => (hm x).mp ?_⟩
        · have a1 : Lk (Side pts) p (L ++ [M]) := lk_mono (fun a b h => side_sub (side_of_rs h) sub) _ _ h1
          have a2 : Lk (Side pts) M (U ++ [p]) := lk_mono (fun a b h => side_sub h.2.1 sub) _ _ h2
          have : (L ++ M :: U) ++ [p] = (L ++ [M]) ++ (U ++ [p]) := by simp
          rw [this, lk_append, lastD_snoc]
          exact ⟨a1, a2⟩
        · have n1 : (p :: L).Nodup := by
            have := lk_asc (fun a b h => h.1) _ _ h1
            rw [← List.cons_append] at this
            exact (List.pairwise_append.mp this).1.imp lt2_ne
          have n2 : (M :: U).Nodup := by
            have := lk_desc (fun a b h => h.1) _ _ h2
            rw [← List.cons_append] at this
            exact (List.pairwise_append.mp this).1.imp fun h => (lt2_ne h).symm
          refine List.nodup_append.mpr ⟨n1, n2, fun z hz w hw e => ?_⟩
          subst e
          obtain ⟨y, hy, hr⟩ := lk_next L p M h1 z hz
          obtain ⟨y', hy', hr'⟩ := lk_next U M p h2 z hw
          have := side_unique (side_of_rs hr) hr'.2.1 (m1 y (List.mem_cons_of_mem _ hy)) (m2 y' (List.mem_cons_of_mem _ hy'))
          subst this
          exact lt2_asymm hr.1 hr'.1
        · rcases List.mem_append.mp hx with h | h
          · exact m1 x (by
              rcases List.mem_cons.mp h with rfl | h
              · simp
              · simp [h])
          · exact m2 x (by
              rcases List.mem_cons.mp h with rfl | h
              · simp
              · simp [h])
/-! ### the law's walk -/
def fol (nx : P → Option P) (first : P) : Nat → P → Option (List P)
  | 0, _ => some []
  | n + 1, cur => match nx cur with
    | none => none
    | some b => if b = first then some [] else (fol nx first n b).map (b :: ·)
theorem fol_ok {nx : P → Option P} {p : P} : ∀ (qs : List P) (cur : P) (n : Nat), Lk (fun a b => nx a = some b) cur (qs ++ [p]) → p ∉ qs → qs.length ≤ n → fol nx p n cur = some qs
  | [], cur, n, h, _, _ => by
    cases n with
    | zero => rfl
    | succ n =>
      unfold fol
      rw [h.1]
      show (if p = p then _ else _) = _
      rw [if_pos rfl]
  | q :: qs, cur, n, h, hp, hn => by
    obtain ⟨n, rfl⟩ : ∃ k, n = k + 1 := ⟨n - 1, by simp at hn; omega⟩
    unfold fol
    rw [h.1]
    have hq : q ≠ p := fun e => hp (by rw [e]; simp)
    show (if q = p then _ else _) = _
    rw [if_neg hq, fol_ok qs q n h.2 (fun hm => hp (List.mem_cons_of_mem _ hm)) (by simp at hn; omega)]
    rfl
theorem hull_fol {pts f : List P} {nx : P → Option P} (h : HullOk pts f) (hnx : ∀ a b, a ∈ pts → b ∈ pts → Side pts a b → nx a = some b) {p : P} (hp : p ∈ pts) (hmin : ∀ c ∈ pts, ¬ lt2 c p) :
    ∃ ps, f = p :: ps ∧ fol nx p pts.length p = some ps := by
  obtain ⟨p', ps, e, hl, hm⟩ := h.ex
  have hp' : p' ∈ pts := h.mem p' (by rw [e]; simp)
  have : p' = p := lt2_eq (hmin p' hp') (hm p hp)
  subst this
  refine ⟨ps, e, fol_ok ps p' _ ?_ ?_ ?_⟩
  · have mem : ∀ (bs : List P) (a : P), a ∈ pts → (∀ q ∈ bs, q ∈ pts) → Lk (Side pts) a bs → Lk (fun a b => nx a = some b) a bs := by
      intro bs
      induction bs with
      | nil => intro a _ _ _; trivial
      | cons b bs ih => intro a ha hb hl; exact ⟨hnx a b ha (hb b (by simp)) hl.1, ih b (hb b (by simp)) (fun q hq => hb q (List.mem_cons_of_mem _ hq)) hl.2⟩
    refine mem _ _ hp' (fun q hq => ?_) hl
    rcases List.mem_append.mp hq with hq | hq
    · exact h.mem q (by rw [e]; exact List.mem_cons_of_mem _ hq)
    · rw [List.mem_singleton.mp hq]; exact hp'
  · have := h.nd
    rw [e] at this
    exact (List.nodup_cons.mp this).1
  · have := nodup_len h.nd h.mem
    rw [e] at this
    simp at this
    omega
def least : P → List P → P
  | b, [] => b
  | b, p :: ps => least (if lt2 p b then p else b) ps
theorem least_ok : ∀ (ps : List P) (b : P), least b ps ∈ b :: ps ∧ ∀ c ∈ b :: ps, ¬ lt2 c (least b ps)
  | [], b => ⟨by simp [least], fun c hc => by rw [List.mem_singleton.mp hc]; exact lt2_irr b⟩
  | p :: ps, b => by
    unfold least
    by_cases h : lt2 p b
    · rw [if_pos h]
      obtain ⟨h1, h2⟩ := least_ok ps p
      refine ⟨List.mem_cons_of_mem _ h1, fun c hc => ?_⟩
      rcases List.mem_cons.mp hc with rfl | hc
      · exact fun k => h2 p (by simp) (lt2_trans h k)
      · exact h2 c hc
    · rw [if_neg h]
      obtain ⟨h1, h2⟩ := least_ok ps b
      refine ⟨?_, fun c hc => ?_⟩
      · rcases List.mem_cons.mp h1 with h1 | h1
        · rw [h1]; simp
        · exact List.mem_cons_of_mem _ (List.mem_cons_of_mem _ h1)
      · rcases List.mem_cons.mp hc with rfl | hc
        · exact h2 _ (by simp)
        · rcases List.mem_cons.mp hc with rfl | hc
          · intro k
            have hb := h2 b (by simp)
            have := lt2_ge h k
            exact hb this
          · exact h2 c (List.mem_cons_of_mem _ hc)
/-! ### polygons -/
structure Poly (f : List P) : Prop where
  ex : ∃ p ps, f = p :: ps ∧ Lk (Side f) p (ps ++ [p])
  nd : f.Nodup
theorem HullOk.poly {pts f : List P} (h : HullOk pts f) : Poly f := by
  obtain ⟨p, ps, e, hl, _⟩ := h.ex
  exact ⟨⟨p, ps, e, lk_mono (fun a b s => side_sub s h.mem) _ _ hl⟩, h.nd⟩
def sidesW : P → List P → List Ln
  | _, [] => []
  | a, b :: bs => ⟨a, b⟩ :: sidesW b bs
def sides : List P → List Ln
  | [] => []
  | p :: ps => sidesW p (ps ++ [p])
theorem sidesW_ok {S : List P} : ∀ (bs : List P) (a : P), Lk (Side S) a bs → ∀ g ∈ sidesW a bs, g.ok ∧ Ins g S
  | [], a, _, g, hg => absurd hg (by simp [sidesW])
  | b :: bs, a, h, g, hg => by
    rcases List.mem_cons.mp (show g ∈ (⟨a, b⟩ : Ln) :: sidesW b bs from hg) with rfl | hg
    · exact ⟨h.1.1, fun p hp => (h.1.2 p hp).1⟩
    · exact sidesW_ok bs b h.2 g hg
theorem Poly.sides_ok {f : List P} (h : Poly f) : ∀ g ∈ sides f, g.ok ∧ Ins g f := by
  obtain ⟨⟨p, ps, e, hl⟩, _⟩ := h
  subst e
  exact sidesW_ok _ _ hl
/-! ### changes of side -/
def sg (g : Ln) (p : P) : Bool := decide (0 ≤ g.at p)
def df (g : Ln) (a b : P) : Nat := if sg g a = sg g b then 0 else 1
def chg (g : Ln) : P → List P → Nat
  | _, [] => 0
  | a, b :: bs => df g a b + chg g b bs
def lch (g : Ln) : List P → Nat
  | [] => 0
  | a :: bs => chg g a bs
theorem df_tri (g : Ln) (a b c : P) : df g a c ≤ df g a b + df g b c := by
  unfold df
  cases sg g a <;> cases sg g b <;> cases sg g c <;> simp
theorem chg_tri (g : Ln) (a b : P) : ∀ ys : List P, chg g a ys ≤ df g a b + chg g b ys
  | [] => Nat.zero_le _
  | y :: ys => by
    show df g a y + chg g y ys ≤ df g a b + (df g b y + chg g y ys)
    have := df_tri g a b y
    omega
theorem chg_sub {g : Ln} {ys xs : List P} (h : ys.Sublist xs) : ∀ a, chg g a ys ≤ chg g a xs := by
  induction h with
  | slnil => intro a; exact Nat.le_refl _
  | @cons ys xs b h ih =>
    intro a
    have h1 := ih b
    have h2 := chg_tri g a b ys
    show chg g a ys ≤ df g a b + chg g b xs
    omega
  | @cons_cons ys xs b h ih =>
    intro a
    have := ih b
    show df g a b + chg g b ys ≤ df g a b + chg g b xs
    omega
theorem lch_sub {g : Ln} {ys xs : List P} (h : ys.Sublist xs) : lch g ys ≤ lch g xs := by
  induction h with
  | slnil => exact Nat.le_refl _
  | @cons ys xs b h ih =>
    refine Nat.le_trans ih ?_
    cases xs with
    | nil => exact Nat.zero_le _
    | cons x xs => show chg g x xs ≤ df g b x + chg g x xs; omega
  | @cons_cons ys xs b h ih => exact chg_sub h b
theorem chg_snoc (g : Ln) : ∀ (a : P) (bs : List P) (z : P), chg g a (bs ++ [z]) = chg g a bs + df g (lastD a bs) z
  | a, [], z => by show df g a z + 0 = 0 + df g a z; omega
  | a, b :: bs, z => by
    show df g a b + chg g b (bs ++ [z]) = df g a b + chg g b bs + df g (lastD b bs) z
    rw [chg_snoc g b bs z]; omega
theorem chg_par (g : Ln) : ∀ (a : P) (bs : List P), chg g a bs % 2 = df g a (lastD a bs)
  | a, [] => by show 0 % 2 = df g a a; unfold df; simp
  | a, b :: bs => by
    have ih := chg_par g b bs
    show (df g a b + chg g b bs) % 2 = df g a (lastD b bs)
    unfold df at *
    revert ih
    cases sg g a <;> cases sg g b <;> cases sg g (lastD b bs) <;> simp <;> omega
/-- the closed count -/
def cch (g : Ln) : List P → Nat
  | [] => 0
  | p :: ps => chg g p (ps ++ [p])
theorem cch_le (g : Ln) (X : List P) (h : lch g X ≤ 2) : cch g X ≤ 2 := by
  cases X with
  | nil => exact Nat.zero_le _
  | cons p ps =>
    have h' : chg g p ps ≤ 2 := h
    have hp := chg_par g p ps
    show chg g p (ps ++ [p]) ≤ 2
    rw [chg_snoc]
    have e : df g (lastD p ps) p = df g p (lastD p ps) := by unfold df; cases sg g p <;> cases sg g (lastD p ps) <;> rfl
    have l : df g p (lastD p ps) ≤ 1 := by unfold df; split <;> omega
    rw [e]
    omega
theorem lch_le (g : Ln) (X : List P) : lch g X ≤ cch g X := by
  cases X with
  | nil => exact Nat.le_refl _
  | cons p ps =>
    show chg g p ps ≤ chg g p (ps ++ [p])
    rw [chg_snoc]; omega
def Uni (X : List P) : Prop := ∀ g : Ln, lch g X ≤ 2
/-- the polygon with the meetings put in -/
def refP (g : Ln) : P → List P → List P
  | _, [] => []
  | a, b :: bs => (if opp g a b then [g.meet a b] else []) ++ b :: refP g b bs
theorem meet_sg {g h : Ln} {a b : P} (o : opp g a b) : df h a (g.meet a b) + df h (g.meet a b) b = df h a b := by
  have hi : 0 ≤ h.at a → 0 ≤ h.at b → 0 ≤ h.at (g.meet a b) := fun ha hb => meet_ins ha hb o
  have ho : ¬ 0 ≤ h.at a → ¬ 0 ≤ h.at b → ¬ 0 ≤ h.at (g.meet a b) := by
    intro ha hb hx
    have e := at_meet g h a b
    -- 0 <= h(x) = (1 - t) h a + t h b, with t in [0, 1]
    have key : ∀ x y : Rat, 0 < x → y < 0 → 0 ≤ x / (x - y) ∧ x / (x - y) ≤ 1 := by
      intro x y hx hy
      have hd : 0 < x - y := by grind
      have hi : 0 < (x - y)⁻¹ := Rat.inv_pos.mpr hd
      have e : (x - y) * (x - y)⁻¹ = 1 := Rat.mul_inv_cancel _ (by grind)
      rw [Rat.div_def]
      have h1 : 0 ≤ x * (x - y)⁻¹ := Rat.mul_nonneg (by grind) (by grind)
      have h2 : 0 ≤ (-y) * (x - y)⁻¹ := Rat.mul_nonneg (by grind) (by grind)
      exact ⟨h1, by grind⟩
    have comb : ∀ t : Rat, 0 ≤ t → t ≤ 1 → h.at a + t * (h.at b - h.at a) < 0 := by
      intro t h0 h1
      have q1 : 0 ≤ t * (-h.at b) := Rat.mul_nonneg h0 (by grind)
      have q2 : 0 ≤ (1 - t) * (-h.at a) := Rat.mul_nonneg (by grind) (by grind)
      rcases (by grind : t = 0 ∨ 0 < t) with ht | ht
      · subst ht; grind
      · have := Rat.mul_pos ht (b := -h.at b) (by grind)
        grind
    rcases o with ⟨h1, h2⟩ | ⟨h1, h2⟩
    · have e2 : g.at a / (g.at a - g.at b) = 1 - g.at b / (g.at b - g.at a) := by
        have hd : g.at a - g.at b ≠ 0 := by grind
        have hd2 : g.at b - g.at a ≠ 0 := by grind
        have e1 := div_mul' (x := g.at a) hd
        have e2 := div_mul' (x := g.at b) hd2
        have : (g.at a / (g.at a - g.at b) - (1 - g.at b / (g.at b - g.at a))) * (g.at a - g.at b) = 0 := by grind
        rcases Rat.mul_eq_zero.mp this with h | h
        · grind
        · exact absurd h hd
      have := key (g.at b) (g.at a) h2 h1
      have := comb (g.at a / (g.at a - g.at b)) (by grind) (by grind)
      grind
    · have := key (g.at a) (g.at b) h1 h2
      have := comb _ this.1 this.2
      grind
  unfold df sg
  by_cases ha : 0 ≤ h.at a <;> by_cases hb : 0 ≤ h.at b <;> by_cases hx : 0 ≤ h.at (g.meet a b) <;> simp [ha, hb, hx]
  · exact hx (hi ha hb)
  · exact ho ha hb hx
theorem chg_ref (g h : Ln) : ∀ (a : P) (bs : List P), chg h a (refP g a bs) = chg h a bs
  | _, [] => rfl
  | a, b :: bs => by
    have ih := chg_ref g h b bs
    show chg h a ((if opp g a b then [g.meet a b] else []) ++ b :: refP g b bs) = df h a b + chg h b bs
    by_cases o : opp g a b
    · rw [if_pos o, ← meet_sg o, ← ih]
      show df h a (g.meet a b) + (df h (g.meet a b) b + chg h b (refP g b bs)) = _
      omega
    · rw [if_neg o, ← ih]; rfl
/-- what a cut keeps is part of it -/
theorem clipW_sub (g : Ln) : ∀ (a : P) (bs : List P), (clipW g a bs).Sublist (a :: refP g a bs)
  | a, [] => List.nil_sublist _
  | a, b :: bs => by
    have ih := clipW_sub g b bs
    show (piece g a b ++ clipW g b bs).Sublist (a :: ((if opp g a b then [g.meet a b] else []) ++ b :: refP g b bs))
    unfold piece
    rw [List.append_assoc]
    have h2 : ((if opp g a b then [g.meet a b] else []) ++ clipW g b bs).Sublist ((if opp g a b then [g.meet a b] else []) ++ b :: refP g b bs) := List.Sublist.append (List.Sublist.refl _) ih
    by_cases ha : 0 ≤ g.at a
    · rw [if_pos ha]; exact h2.cons₂ a
    · rw [if_neg ha]; exact h2.cons a
theorem uni_clip {g : Ln} {X : List P} (h : Uni X) : Uni (clip g X) := by
  intro k
  cases X with
  | nil => exact Nat.zero_le _
  | cons p ps =>
    have h1 := lch_sub (g := k) (clipW_sub g p (ps ++ [p]))
    have h2 : lch k (p :: refP g p (ps ++ [p])) = chg k p (ps ++ [p]) := chg_ref g k p (ps ++ [p])
    have h3 := cch_le k _ (h k)
    rw [h2] at h1
    exact Nat.le_trans h1 h3
theorem uni_flt {X : List P} (h : Uni X) : Uni (flt X) := by
  unfold flt
  split
  · exact h
  · exact fun _ => Nat.zero_le _
/-- how long a cut is -/
def inc (g : Ln) : P → List P → Nat
  | _, [] => 0
  | a, _ :: [] => if 0 ≤ g.at a then 1 else 0
  | a, b :: bs => (if 0 ≤ g.at a then 1 else 0) + inc g b bs
theorem clipW_len (g : Ln) : ∀ (a : P) (bs : List P), (clipW g a bs).length ≤ bs.length + chg g a bs ∧ ((∃ q ∈ (a :: bs).dropLast, ¬ 0 ≤ g.at q) → (clipW g a bs).length + 1 ≤ bs.length + chg g a bs)
  | a, [] => ⟨Nat.le_refl _, fun ⟨q, hq, _⟩ => absurd hq (by simp)⟩
  | a, b :: bs => by
    obtain ⟨h1, h2⟩ := clipW_len g b bs
    have e : (clipW g a (b :: bs)).length = (piece g a b).length + (clipW g b bs).length := by
      show (piece g a b ++ clipW g b bs).length = _
      rw [List.length_append]
    have hd : (if opp g a b then [g.meet a b] else []).length ≤ df g a b := by
      unfold df sg
      by_cases o : opp g a b
      · rw [if_pos o]
        unfold opp at o
        have : ¬ (decide (0 ≤ g.at a) = decide (0 ≤ g.at b)) := by
          rcases o with ⟨k1, k2⟩ | ⟨k1, k2⟩
          · rw [decide_eq_false (by grind), decide_eq_true (by grind)]; simp
          · rw [decide_eq_true (by grind), decide_eq_false (by grind)]; simp
        rw [if_neg this]; exact Nat.le_refl _
      · rw [if_neg o]; exact Nat.zero_le _
    have hp : (piece g a b).length ≤ 1 + df g a b := by
      unfold piece
      rw [List.length_append]
      have : (if 0 ≤ g.at a then [a] else []).length ≤ 1 := by split <;> simp
      omega
    have hc : chg g a (b :: bs) = df g a b + chg g b bs := rfl
    rw [e, hc]
    refine ⟨by simp only [List.length_cons]; omega, fun ⟨q, hq, hn⟩ => ?_⟩
    cases bs with
    | nil =>
      have hqa : q = a := by simpa using hq
      subst hqa
      have hp' : (piece g q b).length ≤ df g q b := by unfold piece; rw [if_neg hn, List.nil_append]; exact hd
      simp only [List.length_cons]
      omega
    | cons c cs =>
      rcases List.mem_cons.mp (show q ∈ a :: (b :: c :: cs).dropLast from hq) with rfl | hq
      · have hp' : (piece g q b).length ≤ df g q b := by unfold piece; rw [if_neg hn, List.nil_append]; exact hd
        simp only [List.length_cons] at *
        omega
      · have := h2 ⟨q, hq, hn⟩
        simp only [List.length_cons] at *
        omega
theorem clip_len {g : Ln} {X : List P} (h : Uni X) : (clip g X).length ≤ X.length + 1 := by
  cases X with
  | nil => exact Nat.zero_le _
  | cons p ps =>
    have h3 := cch_le g _ (h g)
    have h3' : chg g p (ps ++ [p]) ≤ 2 := h3
    obtain ⟨h1, h2⟩ := clipW_len g p (ps ++ [p])
    show (clipW g p (ps ++ [p])).length ≤ _
    by_cases ho : ∃ q ∈ (p :: (ps ++ [p])).dropLast, ¬ 0 ≤ g.at q
    · have := h2 ho
      simp at *
      omega
    · -- all in: no change at all
      have hall : ∀ q ∈ p :: ps, 0 ≤ g.at q := fun q hq => Classical.byContradiction fun hn => ho ⟨q, by rw [← List.cons_append, dropLast_snoc']; exact hq, hn⟩
      have hz : ∀ (bs : List P) (a : P), 0 ≤ g.at a → (∀ q ∈ bs, 0 ≤ g.at q) → chg g a bs = 0 := by
        intro bs
        induction bs with
        | nil => intro a _ _; rfl
        | cons b bs ih =>
          intro a ha hb
          show df g a b + chg g b bs = 0
          rw [ih b (hb b (by simp)) fun q hq => hb q (List.mem_cons_of_mem _ hq)]
          unfold df sg
          rw [decide_eq_true ha, decide_eq_true (hb b (by simp))]; rfl
      have := hz (ps ++ [p]) p (hall p (by simp)) fun q hq => by
        rcases List.mem_append.mp hq with hq | hq
        · exact hall q (List.mem_cons_of_mem _ hq)
        · rw [List.mem_singleton.mp hq]; exact hall p (by simp)
      rw [this] at h1
      simp at h1 ⊢
      omega
theorem flt_len (X : List P) : (flt X).length ≤ X.length := by unfold flt; split <;> simp
/-! ### a polygon's lines change sides twice -/
theorem two_exits {S : List P} {h : Ln} {a b c d : P} (s1 : Side S a b) (s2 : Side S c d) (ha : a ∈ S) (hb : b ∈ S) (hc : c ∈ S) (hd : d ∈ S)
    (a1 : 0 ≤ h.at a) (b1 : ¬ 0 ≤ h.at b) (c1 : 0 ≤ h.at c) (d1 : ¬ 0 ≤ h.at d) : a = c := by
  refine Classical.byContradiction fun hne => ?_
  have id : h.at a * turn b c d - h.at b * turn a c d + h.at c * turn a b d - h.at d * turn a b c = 0 := by unfold Ln.at turn; grind
  have k1 := (s2.2 b hb)
  have k2 := (s2.2 a ha)
  have k3 := (s1.2 d hd)
  have k4 := (s1.2 c hc)
  have r1 : turn c d b = turn b c d := turn_rot b c d
  have r2 : turn c d a = turn a c d := turn_rot a c d
  rw [r1] at k1
  rw [r2] at k2
  have q1 := Rat.mul_nonneg a1 k1.1
  have q2 := Rat.mul_nonneg (a := -h.at b) (by grind) k2.1
  have q3 := Rat.mul_nonneg c1 k3.1
  have q4 := Rat.mul_nonneg (a := -h.at d) (by grind) k4.1
  have z2 : turn a c d = 0 := by
    have : h.at b * turn a c d = 0 := by grind
    rcases Rat.mul_eq_zero.mp this with z | z
    · rw [z] at b1; exact absurd Rat.le_refl b1
    · exact z
  have z4 : turn a b c = 0 := by
    have : h.at d * turn a b c = 0 := by grind
    rcases Rat.mul_eq_zero.mp this with z | z
    · rw [z] at d1; exact absurd Rat.le_refl d1
    · exact z
  have z4' : turn a c b = 0 := by rw [turn_cb, z4]; rfl
  have z3 : turn a b d = 0 := on_line hne (turn_aba a c) z4' z2
  have z1 : turn b c d = 0 := on_line hne z4' (turn_abb a c) z2
  have b1' := k1.2 z1
  have b2' := k2.2 z2
  have b3' := k3.2 z3
  have b4' := k4.2 z4
  have hda : d ≠ a := fun e => d1 (e ▸ a1)
  unfold box at b1' b2' b3' b4'
  rcases ne_dir hne with hx | hx
  · have e1 : d.1 = a.1 := by grind
    have : (c.1 - a.1) * (d.2 - a.2) = 0 := by unfold turn at z2; rw [e1] at z2; grind
    rcases Rat.mul_eq_zero.mp this with z | z
    · exact hx z
    · exact hda (Prod.ext e1 (by grind))
  · have e1 : d.2 = a.2 := by grind
    have : (c.2 - a.2) * (d.1 - a.1) = 0 := by unfold turn at z2; rw [e1] at z2; grind
    rcases Rat.mul_eq_zero.mp this with z | z
    · exact hx z
    · exact hda (Prod.ext (by grind) e1)
def ex (g : Ln) : P → List P → Nat
  | _, [] => 0
  | a, b :: bs => (if 0 ≤ g.at a ∧ ¬ 0 ≤ g.at b then 1 else 0) + ex g b bs
/-- changes are exits, and entries, that are as many along a closed way -/
theorem chg_ex (g : Ln) : ∀ (a : P) (bs : List P), chg g a bs + (if sg g a then 1 else 0) = 2 * ex g a bs + (if sg g (lastD a bs) then 1 else 0)
  | a, [] => by show 0 + (if sg g a = true then 1 else 0) = 2 * 0 + (if sg g a = true then 1 else 0); omega
  | a, b :: bs => by
    have ih := chg_ex g b bs
    show df g a b + chg g b bs + _ = 2 * ((if 0 ≤ g.at a ∧ ¬ 0 ≤ g.at b then 1 else 0) + ex g b bs) + (if sg g (lastD b bs) then 1 else 0)
    unfold df
    by_cases ha : 0 ≤ g.at a <;> by_cases hb : 0 ≤ g.at b <;> simp [sg, ha, hb] at * <;> omega
theorem ex_one {S : List P} {h : Ln} : ∀ (bs : List P) (a : P), Lk (Side S) a bs → (∀ q ∈ a :: bs, q ∈ S) → ((a :: bs).dropLast).Nodup → ex h a bs ≤ 1
  | [], _, _, _, _ => Nat.zero_le _
  | b :: bs, a, hl, hm, hn => by
    have hn' : (a :: (b :: bs).dropLast).Nodup := hn
    have hn2 := List.nodup_cons.mp hn'
    have ih := ex_one (h := h) bs b hl.2 (fun q hq => hm q (List.mem_cons_of_mem _ hq)) hn2.2
    show (if 0 ≤ h.at a ∧ ¬ 0 ≤ h.at b then 1 else 0) + ex h b bs ≤ 1
    by_cases he : 0 ≤ h.at a ∧ ¬ 0 ≤ h.at b
    · rw [if_pos he]
      have hz : ∀ (cs : List P) (c : P), Lk (Side S) c cs → (∀ q ∈ c :: cs, q ∈ S) → a ∉ (c :: cs).dropLast → ex h c cs = 0 := by
        intro cs
        induction cs with
        | nil => intro c _ _ _; rfl
        | cons d ds ih2 =>
          intro c hl2 hm2 ha2
          have ha2' : a ∉ c :: (d :: ds).dropLast := ha2
          show (if 0 ≤ h.at c ∧ ¬ 0 ≤ h.at d then 1 else 0) + ex h d ds = 0
          rw [ih2 d hl2.2 (fun q hq => hm2 q (List.mem_cons_of_mem _ hq)) fun hh => ha2' (List.mem_cons_of_mem _ hh)]
          by_cases hc : 0 ≤ h.at c ∧ ¬ 0 ≤ h.at d
          · have := two_exits hl.1 hl2.1 (hm a (by simp)) (hm b (by simp)) (hm2 c (by simp)) (hm2 d (by simp)) he.1 he.2 hc.1 hc.2
            exact absurd (by rw [this]; simp) ha2'
          · rw [if_neg hc]
      rw [hz bs b hl.2 (fun q hq => hm q (List.mem_cons_of_mem _ hq)) hn2.1]
      exact Nat.le_refl _
    · rw [if_neg he]; omega
theorem Poly.uni {f : List P} (h : Poly f) : Uni f := by
  obtain ⟨⟨p, ps, e, hl⟩, hn⟩ := h
  subst e
  intro g
  refine Nat.le_trans (lch_le g _) ?_
  show chg g p (ps ++ [p]) ≤ 2
  have h1 := chg_ex g p (ps ++ [p])
  rw [lastD_snoc] at h1
  have h2 := ex_one (h := g) (ps ++ [p]) p hl (fun q hq => by
    rcases List.mem_cons.mp hq with rfl | hq
    · simp
    · rcases List.mem_append.mp hq with hq | hq
      · exact List.mem_cons_of_mem _ hq
      · rw [List.mem_singleton.mp hq]; simp) (by rw [← List.cons_append, dropLast_snoc']; exact hn)
  omega
end MG

/-! sums by fans and by sides. -/
namespace MG
def fanW (p : P) : P → List P → Rat
  | _, [] => 0
  | a, b :: bs => turn p a b + fanW p b bs
def fan : List P → Rat
  | p :: a :: bs => fanW p a bs
  | _ => 0
theorem fanW_eq (p : P) : ∀ (a : P) (bs : List P), fanW p a bs = walk cr a bs + cr p a - cr p (lastD a bs)
  | a, [] => by show (0 : Rat) = 0 + cr p a - cr p a; grind
  | a, b :: bs => by
    show turn p a b + fanW p b bs = cr a b + walk cr b bs + cr p a - cr p (lastD b bs)
    rw [fanW_eq p b bs]
    unfold turn cr; grind
theorem fan_cyc (X : List P) : fan X = cyc cr X := by
  match X with
  | [] => rfl
  | [p] => show (0 : Rat) = cr p p + 0; unfold cr; grind
  | p :: a :: bs =>
    show fanW p a bs = cr p a + walk cr a (bs ++ [p])
    rw [fanW_eq, walk_snoc]
    unfold cr; grind
theorem cyc_rot (p : P) (ps : List P) : cyc cr (ps ++ [p]) = cyc cr (p :: ps) := by
  cases ps with
  | nil => rfl
  | cons q qs =>
    show walk cr q (qs ++ [p] ++ [q]) = cr p q + walk cr q (qs ++ [p])
    rw [walk_snoc cr q (qs ++ [p]) q, lastD_snoc]; grind
/-- the places of a closed way -/
theorem cyc_ix {p : P} {ps : List P} {k : Nat} {a b : P} {bs : List P} (h : (p :: (ps ++ [p])).drop k = a :: b :: bs) (hk : k < (p :: ps).length) :
    (p :: ps)[k]? = some a ∧ (p :: ps)[(k + 1) % (p :: ps).length]? = some b := by
  have h1 : (p :: (ps ++ [p]))[k]? = some a := by
    rw [← List.head?_drop, h]; rfl
  have h2 : (p :: (ps ++ [p]))[k + 1]? = some b := by
    rw [← List.head?_drop, ← List.tail_drop, h]; rfl
  have e : p :: (ps ++ [p]) = (p :: ps) ++ [p] := rfl
  rw [e] at h1 h2
  rw [List.getElem?_append_left hk] at h1
  refine ⟨h1, ?_⟩
  rcases Nat.lt_or_ge (k + 1) (p :: ps).length with hl | hl
  · rw [Nat.mod_eq_of_lt hl]
    rw [List.getElem?_append_left hl] at h2
    exact h2
  · have : k + 1 = (p :: ps).length := by omega
    rw [List.getElem?_append_right hl, this] at h2
    rw [this, Nat.mod_self]
    simp at h2 ⊢
    exact h2
theorem drop_next {α : Type} {xs : List α} {k : Nat} {a : α} {bs : List α} (h : xs.drop k = a :: bs) : xs.drop (k + 1) = bs := by
  rw [← List.tail_drop, h]; rfl
end MG

/-! sizes of points that are meetings of first lines. -/
namespace MP
open MG
/-- a first point: parts over 6 -/
def Bs (B : Nat) (v : P) : Prop := In 6 B v.1 ∧ In 6 B v.2
structure LsOk (B : Nat) (Ls : List Ln) : Prop where
  ok : ∀ g ∈ Ls, g.ok
  s : ∀ g ∈ Ls, Bs B g.s
  e : ∀ g ∈ Ls, Bs B g.e
def crn (g h : Ln) : Rat := (g.e.1 - g.s.1) * (h.e.2 - h.s.2) - (g.e.2 - g.s.2) * (h.e.1 - h.s.1)
def VOk (B : Nat) (Ls : List Ln) (v : P) : Prop := Bs B v ∨ ∃ g ∈ Ls, ∃ h ∈ Ls, g.at v = 0 ∧ h.at v = 0 ∧ crn g h ≠ 0
def E2 (Ls : List Ln) (a b : P) : Prop := ∃ g ∈ Ls, g.at a = 0 ∧ g.at b = 0
def Cl (R : P → P → Prop) : List P → Prop
  | [] => True
  | p :: ps => Lk R p (ps ++ [p])
structure PX (B : Nat) (Ls : List Ln) (X : List P) : Prop where
  ed : Cl (E2 Ls) X
  vx : ∀ v ∈ X, VOk B Ls v
  un : Uni X
theorem crn_at (g h : Ln) (a b : P) (ha : g.at a = 0) (hb : g.at b = 0) (hg : g.ok) (hne : h.at a ≠ h.at b) : crn g h ≠ 0 := by
  intro hz
  have hd := ne_dir hg
  unfold Ln.at turn at ha hb hne
  unfold crn at hz
  -- b - a is along g; h(b) - h(a) = cross of h's direction and b - a
  have h1 : (g.e.1 - g.s.1) * (b.2 - a.2) - (g.e.2 - g.s.2) * (b.1 - a.1) = 0 := by grind
  have := cr_zero hd hz h1
  exact hne (by grind)
/-- one of the lines, either way round -/
def On (Ls : List Ln) (g : Ln) : Prop := ∃ k ∈ Ls, (∀ p, g.at p = k.at p) ∨ ∀ p, g.at p = - k.at p
theorem on_mem {Ls : List Ln} {g : Ln} (h : g ∈ Ls) : On Ls g := ⟨g, h, .inl fun _ => rfl⟩
theorem on_rev {Ls : List Ln} {g : Ln} (h : g ∈ Ls) : On Ls g.rev := ⟨g, h, .inr fun p => rev_at g p⟩
theorem vok_meet {B : Nat} {Ls : List Ln} (L : LsOk B Ls) {g : Ln} (hg : On Ls g) {a b : P} (he : E2 Ls a b) (o : opp g a b) : VOk B Ls (g.meet a b) := by
  obtain ⟨l, hl, la, lb⟩ := he
  obtain ⟨k, hk, hgk⟩ := hg
  have hne : g.at a ≠ g.at b := by unfold opp at o; grind
  have hab : a ≠ b := fun e => hne (by rw [e])
  have on : l.at (g.meet a b) = 0 := by
    rw [at_meet, la, lb]; grind
  have hm := meet_on g hne
  refine .inr ⟨l, hl, k, hk, on, ?_, crn_at l k a b la lb (L.ok l hl) ?_⟩
  · rcases hgk with e | e
    · rw [← e]; exact hm
    · have := e (g.meet a b); grind
  · rcases hgk with e | e
    · rw [← e, ← e]; exact hne
    · have h1 := e a
      have h2 := e b
      grind
/-! ### cuts keep it -/
def LkL (R : P → P → Prop) : List P → Prop
  | [] => True
  | x :: xs => Lk R x xs
section
variable {B : Nat} {Ls : List Ln} {g : Ln}
theorem e2_g (hg : On Ls g) {a b : P} (ha : g.at a = 0) (hb : g.at b = 0) : E2 Ls a b := by
  obtain ⟨k, hk, e | e⟩ := hg
  · exact ⟨k, hk, by rw [← e]; exact ha, by rw [← e]; exact hb⟩
  · exact ⟨k, hk, by have := e a; grind, by have := e b; grind⟩
theorem e2_meet {a b : P} (h : E2 Ls a b) : E2 Ls a (g.meet a b) ∧ E2 Ls (g.meet a b) b := by
  obtain ⟨l, hl, la, lb⟩ := h
  have on : l.at (g.meet a b) = 0 := by rw [at_meet, la, lb]; grind
  exact ⟨⟨l, hl, la, on⟩, ⟨l, hl, on, lb⟩⟩
theorem clip_path (hg : On Ls g) {r : P} (hr : g.at r = 0) : ∀ (bs : List P) (a : P), Lk (E2 Ls) a bs → (if 0 ≤ g.at a then LkL (E2 Ls) (rest g r a bs) else LkL (E2 Ls) (r :: rest g r a bs))
  | [], a, _ => by
    by_cases ha : 0 ≤ g.at a
    · rw [if_pos ha]; unfold rest lastD clipW; rw [if_pos ha]; exact trivial
    · rw [if_neg ha]; unfold rest lastD clipW; rw [if_neg ha]; exact ⟨e2_g hg hr hr, trivial⟩
  | b :: bs, a, h => by
    obtain ⟨he, h'⟩ := h
    have ih := clip_path hg hr bs b h'
    rw [rest_cons]
    unfold piece
    by_cases ha : 0 ≤ g.at a <;> by_cases hb : 0 ≤ g.at b
    · rw [if_pos hb] at ih
      rw [if_pos ha, if_pos ha, if_neg (not_opp_ii ha hb)]
      obtain ⟨t, ht⟩ := rest_in r b bs hb
      rw [ht] at ih ⊢
      exact ⟨he, ih⟩
    · rw [if_neg hb] at ih
      rw [if_pos ha, if_pos ha]
      obtain ⟨y, t, ht, hy⟩ := rest_out hr b bs hb
      rw [ht] at ih ⊢
      by_cases ho : opp g a b
      · rw [if_pos ho]
        exact ⟨(e2_meet he).1, e2_g hg (meet_on g (by unfold opp at ho; grind)) hy, ih.2⟩
      · rw [if_neg ho]
        exact ⟨e2_g hg (by unfold opp at ho; grind) hy, ih.2⟩
    · rw [if_pos hb] at ih
      rw [if_neg ha, if_neg ha]
      obtain ⟨t, ht⟩ := rest_in r b bs hb
      rw [ht] at ih ⊢
      by_cases ho : opp g a b
      · rw [if_pos ho]
        exact ⟨e2_g hg hr (meet_on g (by unfold opp at ho; grind)), (e2_meet he).2, ih⟩
      · rw [if_neg ho]
        exact ⟨e2_g hg hr (by unfold opp at ho; grind), ih⟩
    · rw [if_neg hb] at ih
      rw [if_neg ha, if_neg ha, if_neg (not_opp_oo ha hb)]
      exact ih
theorem clip_cl (hg : On Ls g) {X : List P} (h : Cl (E2 Ls) X) : Cl (E2 Ls) (clip g X) := by
  cases X with
  | nil => exact trivial
  | cons p ps =>
    have hr : g.at g.s = 0 := on_s g
    have hp := clip_path hg hr (ps ++ [p]) p h
    have hl := lastD_snoc p ps p
    show Cl (E2 Ls) (clipW g p (ps ++ [p]))
    by_cases hi : 0 ≤ g.at p
    · rw [if_pos hi] at hp
      unfold rest at hp
      rw [hl, if_pos hi] at hp
      obtain ⟨t, ht⟩ : ∃ t, clipW g p (ps ++ [p]) = p :: t := by
        cases ps with
        | nil => exact ⟨_, by show piece g p p ++ [] = _; unfold piece; rw [if_pos hi]; rfl⟩
        | cons q qs => exact ⟨_, by show piece g p q ++ clipW g q (qs ++ [p]) = _; unfold piece; rw [if_pos hi]; rfl⟩
      rw [ht] at hp ⊢
      exact hp
    · rw [if_neg hi] at hp
      unfold rest at hp
      rw [hl, if_neg hi] at hp
      have lo := last_out (ps ++ [p]) p (by rw [hl]; exact hi)
      have ro := rest_out hr p (ps ++ [p]) hi
      unfold rest at ro
      rw [hl, if_neg hi] at ro
      cases hE : clipW g p (ps ++ [p]) with
      | nil => exact trivial
      | cons y t =>
        rw [hE] at ro hp
        obtain ⟨y', t', e, hy⟩ := ro
        cases e
        have hly := lo y t hE
        have hp' : Lk (E2 Ls) y (t ++ [g.s]) := hp.2
        rw [lk_append] at hp'
        show Lk (E2 Ls) y (t ++ [y])
        rw [lk_append]
        exact ⟨hp'.1, e2_g hg hly hy, trivial⟩
theorem clipW_vx (L : LsOk B Ls) (hg : On Ls g) : ∀ (bs : List P) (a : P), Lk (E2 Ls) a bs → (∀ v ∈ a :: bs, VOk B Ls v) → ∀ v ∈ clipW g a bs, VOk B Ls v
  | [], _, _, _, v, hv => absurd hv (by simp [clipW])
  | b :: bs, a, h, hx, v, hv => by
    rcases List.mem_append.mp (show v ∈ piece g a b ++ clipW g b bs from hv) with hv | hv
    · unfold piece at hv
      rcases List.mem_append.mp hv with hv | hv
      · split at hv
        · rw [List.mem_singleton.mp hv]; exact hx a (by simp)
        · cases hv
      · split at hv
        · rw [List.mem_singleton.mp hv]; exact vok_meet L hg h.1 (by assumption)
        · cases hv
    · exact clipW_vx L hg bs b h.2 (fun w hw => hx w (List.mem_cons_of_mem _ hw)) v hv
theorem PX.clip (L : LsOk B Ls) (hg : On Ls g) {X : List P} (h : PX B Ls X) : PX B Ls (clip g X) := by
  refine ⟨clip_cl hg h.ed, ?_, uni_clip h.un⟩
  cases X with
  | nil => exact h.vx
  | cons p ps =>
    refine clipW_vx L hg (ps ++ [p]) p h.ed fun v hv => ?_
    rcases List.mem_cons.mp hv with rfl | hv
    · exact h.vx v (by simp)
    · rcases List.mem_append.mp hv with hv | hv
      · exact h.vx v (List.mem_cons_of_mem _ hv)
      · rw [List.mem_singleton.mp hv]; exact h.vx p (by simp)
theorem PX.flt {X : List P} (h : PX B Ls X) : PX B Ls (flt X) := by
  unfold MG.flt
  split
  · exact h
  · exact ⟨trivial, fun v hv => absurd hv (by simp), fun _ => Nat.zero_le _⟩
end
/-! ### grids -/
structure Gd (v : P) : Prop where
  ex : ∃ D M : Nat, 0 < D ∧ D < 2 ^ 18 ∧ M < 2 ^ 22 ∧ In D M v.1 ∧ In D M v.2
theorem in_diff {B C : Nat} {a b : Rat} (ha : In 6 B a) (hb : In 6 C b) : In 6 (B + C) (a - b) := ha.sub hb
theorem In.neg' {D M : Nat} {a b : Rat} (h : In D M (a - b)) : In D M (b - a) := by
  obtain ⟨n, e, l⟩ := h
  refine ⟨-n, ?_, by omega⟩
  rw [Rat.intCast_neg, ← e]; grind
theorem at_in {B : Nat} {Ls : List Ln} (L : LsOk B Ls) {g : Ln} (hg : g ∈ Ls) {v : P} (hv : Bs B v) : In 36 (8 * B * B) (g.at v) := by
  have s := L.s g hg
  have e := L.e g hg
  have h1 := (in_diff e.1 s.1).mul (in_diff hv.2 s.2)
  have h2 := (in_diff e.2 s.2).mul (in_diff hv.1 s.1)
  have := h1.sub h2
  unfold Ln.at turn
  refine In.mono this ?_
  have : (B + B) * (B + B) + (B + B) * (B + B) = 8 * B * B := by grind
  omega
theorem crn_in {B : Nat} {Ls : List Ln} (L : LsOk B Ls) {g h : Ln} (hg : g ∈ Ls) (hh : h ∈ Ls) : In 36 (8 * B * B) (crn g h) := by
  have s := L.s g hg
  have e := L.e g hg
  have s' := L.s h hh
  have e' := L.e h hh
  have h1 := (in_diff e.1 s.1).mul (in_diff e'.2 s'.2)
  have h2 := (in_diff e.2 s.2).mul (in_diff e'.1 s'.1)
  have := h1.sub h2
  unfold crn
  refine In.mono this ?_
  have : (B + B) * (B + B) + (B + B) * (B + B) = 8 * B * B := by grind
  omega
/-- the meeting of two first lines, over 6 times their cross -/
theorem meet_grid {B : Nat} {Ls : List Ln} (L : LsOk B Ls) {g h : Ln} (hg : g ∈ Ls) (hh : h ∈ Ls) {v : P} (gv : g.at v = 0) (hv : h.at v = 0) (hc : crn g h ≠ 0) :
    ∃ n : Int, n ≠ 0 ∧ crn g h * 36 = n ∧ n.natAbs ≤ 8 * B * B ∧ In (6 * n.natAbs) (24 * B * B * B) v.1 ∧ In (6 * n.natAbs) (24 * B * B * B) v.2 := by
  obtain ⟨n, en, ln⟩ := crn_in L hg hh
  obtain ⟨a, ea, la⟩ := at_in L hh (L.s g hg)
  have en' : crn g h * 36 = n := en
  have ea' : h.at g.s * 36 = a := ea
  have hn0 : n ≠ 0 := by
    intro z
    rw [z] at en'
    have : crn g h = 0 := by grind
    exact hc this
  -- v = s + t (e - s), t * crn = - h(s)
  have hgok := L.ok g hg
  have key : ∀ k : P → Rat, (k = Prod.fst ∨ k = Prod.snd) → k v * crn g h = k g.s * crn g h + h.at g.s * (k g.e - k g.s) := by
    intro k hk
    have hd := ne_dir hgok
    unfold Ln.at turn at gv hv
    unfold crn Ln.at turn
    rcases hk with rfl | rfl
    · show v.1 * _ = g.s.1 * _ + _ * (g.e.1 - g.s.1)
      grind
    · show v.2 * _ = g.s.2 * _ + _ * (g.e.2 - g.s.2)
      grind
  have fin : ∀ k : P → Rat, (k = Prod.fst ∨ k = Prod.snd) → In 6 B (k g.s) → In 6 B (k g.e) → In (6 * n.natAbs) (24 * B * B * B) (k v) := by
    intro k hk hs he
    have hkv := key k hk
    obtain ⟨x, ex, lx⟩ := hs
    obtain ⟨y, ey, ly⟩ := he
    have ex' : k g.s * 6 = x := ex
    have ey' : k g.e * 6 = y := ey
    have main : k v * (6 * (n : Rat)) = ((x * n + a * (y - x) : Int) : Rat) := by
      rw [Rat.intCast_add, Rat.intCast_mul, Rat.intCast_mul, Rat.intCast_sub, ← ex', ← ey', ← en', ← ea']
      have : k v * (6 * (crn g h * 36)) = 216 * (k v * crn g h) := by grind
      rw [this, hkv]; grind
    have hb : (x * n + a * (y - x)).natAbs ≤ 24 * B * B * B := by
      have b1 : (x * n).natAbs ≤ B * (8 * B * B) := by rw [Int.natAbs_mul]; exact Nat.mul_le_mul lx ln
      have b2 : (a * (y - x)).natAbs ≤ (8 * B * B) * (B + B) := by rw [Int.natAbs_mul]; exact Nat.mul_le_mul la (by omega)
      have b3 : B * (8 * B * B) + (8 * B * B) * (B + B) = 24 * B * B * B := by grind
      have := Int.natAbs_add_le (x * n) (a * (y - x))
      omega
    rcases (by omega : (n.natAbs : Int) = n ∨ (n.natAbs : Int) = -n) with hs | hs
    · refine ⟨x * n + a * (y - x), ?_, hb⟩
      have : (((6 * n.natAbs : Nat) : Int) : Rat) = 6 * (n : Rat) := by
        rw [Int.natCast_mul, hs, Rat.intCast_mul]; rfl
      rw [this, main]
    · refine ⟨-(x * n + a * (y - x)), ?_, by rw [Int.natAbs_neg]; exact hb⟩
      have : (((6 * n.natAbs : Nat) : Int) : Rat) = -(6 * (n : Rat)) := by
        rw [Int.natCast_mul, hs, Rat.intCast_mul, Rat.intCast_neg]; grind
      rw [this, Rat.intCast_neg, ← main]; grind
  exact ⟨n, hn0, en', ln, fin Prod.fst (.inl rfl) (L.s g hg).1 (L.e g hg).1, fin Prod.snd (.inr rfl) (L.s g hg).2 (L.e g hg).2⟩
theorem gd_of {B : Nat} {Ls : List Ln} (L : LsOk B Ls) (hB : B ≤ 48) {v : P} (h : VOk B Ls v) : Gd v := by
  rcases h with h | ⟨g, hg, k, hk, gv, kv, hc⟩
  · exact ⟨6, B, by decide, by decide, by omega, h.1, h.2⟩
  · obtain ⟨n, hn, _, ln, h1, h2⟩ := meet_grid L hg hk gv kv hc
    have b1 : 8 * B * B ≤ 8 * 48 * 48 := Nat.mul_le_mul (Nat.mul_le_mul_left _ hB) hB
    have b2 : 24 * B * B * B ≤ 24 * 48 * 48 * 48 := Nat.mul_le_mul (Nat.mul_le_mul (Nat.mul_le_mul_left _ hB) hB) hB
    exact ⟨6 * n.natAbs, 24 * B * B * B, by omega, by omega, by omega, h1, h2⟩
end MP

/-! sizes of turns and sums. -/
namespace MP
open MG
theorem In.muls {D M E N : Nat} {a b : Rat} (h : In D M a) (h' : In E N b) : In (D * E) (M * N) (a * b) := h.mul h'
/-- two parts over different numbers -/
theorem In.sub2 {D M E N : Nat} {a b : Rat} (h : In D M a) (h' : In E N b) : In (D * E) (M * E + D * N) (a - b) := by
  obtain ⟨n, e, l⟩ := h
  obtain ⟨n', e', l'⟩ := h'
  refine ⟨n * E - D * n', ?_, ?_⟩
  · have : (((D * E : Nat) : Int) : Rat) = ((D : Int) : Rat) * ((E : Int) : Rat) := by rw [← Rat.intCast_mul]; rfl
    rw [this, Rat.intCast_sub, Rat.intCast_mul, Rat.intCast_mul, ← e, ← e']; grind
  · have b1 : (n * (E : Int)).natAbs ≤ M * E := by rw [Int.natAbs_mul]; exact Nat.mul_le_mul_right _ l
    have b2 : ((D : Int) * n').natAbs ≤ D * N := by rw [Int.natAbs_mul]; exact Nat.mul_le_mul_left _ l'
    omega
theorem gd_diff {a b : P} (ha : Gd a) (hb : Gd b) : ∃ D M : Nat, 0 < D ∧ D < 2 ^ 36 ∧ M < 2 ^ 41 ∧ In D M (a.1 - b.1) ∧ In D M (a.2 - b.2) := by
  obtain ⟨D, M, h0, hD, hM, x, y⟩ := ha
  obtain ⟨E, N, k0, kE, kN, u, v⟩ := hb
  refine ⟨D * E, M * E + D * N, Nat.mul_pos h0 k0, ?_, ?_, x.sub2 u, y.sub2 v⟩
  · calc D * E < 2 ^ 18 * 2 ^ 18 := Nat.mul_lt_mul'' hD kE
      _ = 2 ^ 36 := by decide
  · have b1 : M * E < 2 ^ 22 * 2 ^ 18 := Nat.mul_lt_mul'' hM kE
    have b2 : D * N < 2 ^ 18 * 2 ^ 22 := Nat.mul_lt_mul'' hD kN
    omega
theorem gd_sz {a : P} (ha : Gd a) : Sz 22 a.1 ∧ Sz 22 a.2 := by
  obtain ⟨D, M, h0, hD, hM, x, y⟩ := ha
  have hD' : D < 2 ^ 22 := Nat.lt_of_lt_of_le hD (by decide)
  exact ⟨x.sz h0 hD' hM, y.sz h0 hD' hM⟩
theorem diff_sz {a b : P} (ha : Gd a) (hb : Gd b) : Sz 41 (a.1 - b.1) ∧ Sz 41 (a.2 - b.2) := by
  obtain ⟨D, M, h0, hD, hM, x, y⟩ := gd_diff ha hb
  have hD' : D < 2 ^ 41 := Nat.lt_of_lt_of_le hD (by decide)
  exact ⟨x.sz h0 hD' hM, y.sz h0 hD' hM⟩
theorem turn_sz {a b c : P} (ha : Gd a) (hb : Gd b) (hc : Gd c) : Sz 87 (turn a b c) := by
  obtain ⟨D, M, h0, hD, hM, x, y⟩ := gd_diff hb ha
  obtain ⟨E, N, k0, kE, kN, u, v⟩ := gd_diff hc ha
  have h1 := x.mul v
  have h2 := y.mul u
  have h3 := h1.sub h2
  have b1 : D * E < 2 ^ 36 * 2 ^ 36 := Nat.mul_lt_mul'' hD kE
  have b2 : M * N < 2 ^ 41 * 2 ^ 41 := Nat.mul_lt_mul'' hM kN
  have b3 : (2 : Nat) ^ 41 * 2 ^ 41 + 2 ^ 41 * 2 ^ 41 < 2 ^ 87 := by decide
  exact h3.sz (Nat.mul_pos h0 k0) (Nat.lt_trans b1 (by decide)) (by omega)
theorem at_sz {g : Ln} {v : P} (hs : Gd g.s) (he : Gd g.e) (hv : Gd v) : Sz 87 (g.at v) := turn_sz hs he hv
/-! ### a common denominator -/
def Dn (D : Nat) (q : Rat) : Prop := ∃ n : Int, q * ((D : Int) : Rat) = n
theorem Dn.zero (D : Nat) : Dn D 0 := ⟨0, by grind⟩
theorem Dn.add {D : Nat} {a b : Rat} (h : Dn D a) (h' : Dn D b) : Dn D (a + b) := by
  obtain ⟨n, e⟩ := h
  obtain ⟨n', e'⟩ := h'
  exact ⟨n + n', by rw [Rat.intCast_add, ← e, ← e']; grind⟩
theorem Dn.sub {D : Nat} {a b : Rat} (h : Dn D a) (h' : Dn D b) : Dn D (a - b) := by
  obtain ⟨n, e⟩ := h
  obtain ⟨n', e'⟩ := h'
  exact ⟨n - n', by rw [Rat.intCast_sub, ← e, ← e']; grind⟩
theorem Dn.mul {D E : Nat} {a b : Rat} (h : Dn D a) (h' : Dn E b) : Dn (D * E) (a * b) := by
  obtain ⟨n, e⟩ := h
  obtain ⟨n', e'⟩ := h'
  refine ⟨n * n', ?_⟩
  have : (((D * E : Nat) : Int) : Rat) = ((D : Int) : Rat) * ((E : Int) : Rat) := by rw [← Rat.intCast_mul]; rfl
  rw [this, Rat.intCast_mul, ← e, ← e']; grind
theorem Dn.up {D E : Nat} {a : Rat} (h : Dn D a) (hd : D ∣ E) : Dn E a := by
  obtain ⟨n, e⟩ := h
  obtain ⟨c, rfl⟩ := hd
  refine ⟨n * c, ?_⟩
  have : (((D * c : Nat) : Int) : Rat) = ((D : Int) : Rat) * ((c : Int) : Rat) := by rw [← Rat.intCast_mul]; rfl
  rw [this, Rat.intCast_mul, ← e]; grind
theorem In.dn {D M : Nat} {a : Rat} (h : In D M a) : Dn D a := ⟨h.choose, h.choose_spec.1⟩
/-- not greater than m -/
def Mg (m : Nat) (q : Rat) : Prop := -(((m : Int)) : Rat) ≤ q ∧ q ≤ (((m : Int)) : Rat)
theorem Mg.add {m n : Nat} {a b : Rat} (h : Mg m a) (h' : Mg n b) : Mg (m + n) (a + b) := by
  unfold Mg at *
  have : (((m + n : Nat) : Int) : Rat) = ((m : Int) : Rat) + ((n : Int) : Rat) := by rw [← Rat.intCast_add]; rfl
  rw [this]; grind
theorem Mg.sub {m n : Nat} {a b : Rat} (h : Mg m a) (h' : Mg n b) : Mg (m + n) (a - b) := by
  unfold Mg at *
  have : (((m + n : Nat) : Int) : Rat) = ((m : Int) : Rat) + ((n : Int) : Rat) := by rw [← Rat.intCast_add]; rfl
  rw [this]; grind
theorem cast_nn (m : Nat) : (0 : Rat) ≤ ((m : Int) : Rat) := by
  have : ((0 : Int) : Rat) ≤ ((m : Int) : Rat) := Rat.intCast_le_intCast.mpr (by omega)
  simpa using this
theorem Mg.mono {m n : Nat} {a : Rat} (h : Mg m a) (l : m ≤ n) : Mg n a := by
  have : ((m : Int) : Rat) ≤ ((n : Int) : Rat) := Rat.intCast_le_intCast.mpr (by omega)
  unfold Mg at *; grind
theorem Mg.mul {m n : Nat} {a b : Rat} (h : Mg m a) (h' : Mg n b) : Mg (m * n) (a * b) := by
  unfold Mg at *
  have e : (((m * n : Nat) : Int) : Rat) = ((m : Int) : Rat) * ((n : Int) : Rat) := by rw [← Rat.intCast_mul]; rfl
  rw [e]
  generalize ((m : Int) : Rat) = x at *
  generalize ((n : Int) : Rat) = y at *
  have p1 := Rat.mul_nonneg (a := x - a) (b := y - b) (by grind) (by grind)
  have p2 := Rat.mul_nonneg (a := x + a) (b := y + b) (by grind) (by grind)
  have p3 := Rat.mul_nonneg (a := x - a) (b := y + b) (by grind) (by grind)
  have p4 := Rat.mul_nonneg (a := x + a) (b := y - b) (by grind) (by grind)
  constructor <;> grind
theorem In.mg {D M : Nat} {a : Rat} (h : In D M a) (h0 : 0 < D) : Mg M a := by
  obtain ⟨n, e, l⟩ := h
  have hD : (1 : Rat) ≤ ((D : Int) : Rat) := by
    have : ((1 : Int) : Rat) ≤ ((D : Int) : Rat) := Rat.intCast_le_intCast.mpr (by omega)
    simpa using this
  have l1 : ((n : Int) : Rat) ≤ ((M : Int) : Rat) := Rat.intCast_le_intCast.mpr (by omega)
  have l2 : ((-(M : Int) : Int) : Rat) ≤ ((n : Int) : Rat) := Rat.intCast_le_intCast.mpr (by omega)
  rw [Rat.intCast_neg] at l2
  have hM := cast_nn M
  rw [← e] at l1 l2
  unfold Mg
  generalize ((D : Int) : Rat) = d at *
  generalize ((M : Int) : Rat) = m at *
  constructor
  · refine Classical.byContradiction fun hn => ?_
    have h1 : 0 < -a := by grind
    have := Rat.mul_nonneg (a := d - 1) (b := -a) (by grind) (by grind)
    grind
  · refine Classical.byContradiction fun hn => ?_
    have h1 : 0 < a := by grind
    have := Rat.mul_nonneg (a := d - 1) (b := a) (by grind) (by grind)
    grind
theorem sz_of {D m k : Nat} {q : Rat} (hd : Dn D q) (hm : Mg m q) (h0 : 0 < D) (hD : D < 2 ^ k) (hk : m * D < 2 ^ k) : Sz k q := by
  obtain ⟨n, e⟩ := hd
  refine Sz.of (n := n) (d := (D : Int)) (by omega) e ?_ (by show (D : Int).natAbs < 2 ^ k; simpa using hD)
  refine Nat.lt_of_le_of_lt ?_ hk
  have hDr := cast_nn D
  have e1 : (((m * D : Nat) : Int) : Rat) = ((m : Int) : Rat) * ((D : Int) : Rat) := by rw [← Rat.intCast_mul]; rfl
  have u : ((n : Int) : Rat) ≤ (((m * D : Nat) : Int) : Rat) := by
    rw [e1, ← e]
    have := Rat.mul_nonneg (a := ((m : Int) : Rat) - q) (by have := hm.2; grind) hDr
    grind
  have l : (((-(m * D : Nat) : Int)) : Rat) ≤ ((n : Int) : Rat) := by
    rw [Rat.intCast_neg, e1, ← e]
    have := Rat.mul_nonneg (a := ((m : Int) : Rat) + q) (by have := hm.1; grind) hDr
    grind
  have u' := Rat.intCast_le_intCast.mp u
  have l' := Rat.intCast_le_intCast.mp l
  omega
/-! ### all crossings -/
def cn (g h : Ln) : Nat := if crn g h = 0 then 1 else (crn g h * 36).num.natAbs
theorem crn_swap (g h : Ln) : crn h g = - crn g h := by unfold crn; grind
theorem cn_swap (g h : Ln) : cn h g = cn g h := by
  unfold cn
  rw [crn_swap g h]
  by_cases e : crn g h = 0
  · rw [if_pos e, if_pos (by rw [e]; rfl)]
  · rw [if_neg e, if_neg (by grind)]
    have : -crn g h * 36 = -(crn g h * 36) := by grind
    rw [this, Rat.neg_num, Int.natAbs_neg]
def prs : List Ln → List Nat
  | [] => []
  | g :: r => r.map (cn g) ++ prs r
def prodN : List Nat → Nat
  | [] => 1
  | x :: xs => x * prodN xs
theorem mem_prs : ∀ {Ls : List Ln} {g h : Ln}, g ∈ Ls → h ∈ Ls → crn g h ≠ 0 → cn g h ∈ prs Ls
  | [], g, h, hg, _, _ => absurd hg (by simp)
  | l :: Ls, g, h, hg, hh, hc => by
    have hself : ∀ g : Ln, crn g g = 0 := fun g => by unfold crn; grind
    rcases List.mem_cons.mp hg with rfl | hg'
    · rcases List.mem_cons.mp hh with rfl | hh'
      · exact absurd (hself _) hc
      · exact List.mem_append_left _ (List.mem_map_of_mem hh')
    · rcases List.mem_cons.mp hh with rfl | hh'
      · rw [← cn_swap g]
        exact List.mem_append_left _ (List.mem_map_of_mem hg')
      · exact List.mem_append_right _ (mem_prs hg' hh' hc)
theorem dvd_prod {x : Nat} : ∀ {xs : List Nat}, x ∈ xs → x ∣ prodN xs
  | [], h => absurd h (by simp)
  | y :: ys, h => by
    rcases List.mem_cons.mp h with rfl | h
    · exact Nat.dvd_mul_right ..
    · exact Nat.dvd_trans (dvd_prod h) (Nat.dvd_mul_left ..)
theorem prod_lt {k : Nat} : ∀ {xs : List Nat}, (∀ x ∈ xs, 0 < x ∧ x < 2 ^ k) → 0 < prodN xs ∧ prodN xs ≤ 2 ^ (k * xs.length)
  | [], _ => ⟨by decide, by simp [prodN]⟩
  | x :: xs, h => by
    have h1 := h x (by simp)
    have h2 := prod_lt (xs := xs) fun y hy => h y (List.mem_cons_of_mem _ hy)
    refine ⟨Nat.mul_pos h1.1 h2.1, ?_⟩
    show x * prodN xs ≤ _
    have e : k * (x :: xs).length = k + k * xs.length := by rw [List.length_cons, Nat.mul_add]; omega
    rw [e, Nat.pow_add]
    exact Nat.mul_le_mul (by omega) h2.2
theorem prs_len : ∀ Ls : List Ln, (prs Ls).length * 2 + Ls.length = Ls.length * Ls.length
  | [] => rfl
  | g :: r => by
    have := prs_len r
    show (r.map (cn g) ++ prs r).length * 2 + (r.length + 1) = (r.length + 1) * (r.length + 1)
    rw [List.length_append, List.length_map]
    grind
theorem cn_bound {Ls : List Ln} (L : LsOk 36 Ls) {g h : Ln} (hg : g ∈ Ls) (hh : h ∈ Ls) : 0 < cn g h ∧ cn g h < 2 ^ 14 := by
  unfold cn
  by_cases e : crn g h = 0
  · rw [if_pos e]; decide
  · rw [if_neg e]
    obtain ⟨n, en, ln⟩ := crn_in L hg hh
    have en' : crn g h * 36 = n := en
    rw [en', Rat.num_intCast]
    refine ⟨?_, by omega⟩
    have : n ≠ 0 := fun z => e (by rw [z] at en'; grind)
    omega
theorem prs_bound {Ls : List Ln} (L : LsOk 36 Ls) : ∀ (Ks : List Ln), (∀ g ∈ Ks, g ∈ Ls) → ∀ x ∈ prs Ks, 0 < x ∧ x < 2 ^ 14
  | [], _, x, hx => absurd hx (by simp [prs])
  | g :: r, hs, x, hx => by
    rcases List.mem_append.mp (show x ∈ r.map (cn g) ++ prs r from hx) with hx | hx
    · obtain ⟨h, hh, rfl⟩ := List.mem_map.mp hx
      exact cn_bound L (hs g (by simp)) (hs h (List.mem_cons_of_mem _ hh))
    · exact prs_bound L r (fun k hk => hs k (List.mem_cons_of_mem _ hk)) x hx
/-- the denominator of all -/
def Dst (Ls : List Ln) : Nat := 6 * prodN (prs Ls)
theorem dst_bound {Ls : List Ln} (L : LsOk 36 Ls) (hl : Ls.length ≤ 18) : 0 < Dst Ls ∧ Dst Ls ≤ 2 ^ 2145 := by
  obtain ⟨h0, h1⟩ := prod_lt (prs_bound L Ls fun g hg => hg)
  have hlen := prs_len Ls
  have h153 : (prs Ls).length ≤ 153 := by
    have : Ls.length * Ls.length ≤ 18 * Ls.length := Nat.mul_le_mul_right _ hl
    have h17 : Ls.length * Ls.length - Ls.length ≤ 306 := by
      have : Ls.length * Ls.length - Ls.length = Ls.length * (Ls.length - 1) := by rw [Nat.mul_sub]; omega
      rw [this]
      calc Ls.length * (Ls.length - 1) ≤ 18 * 17 := Nat.mul_le_mul hl (by omega)
        _ = 306 := by decide
    omega
  have h2 : prodN (prs Ls) ≤ 2 ^ 2142 := Nat.le_trans h1 (Nat.pow_le_pow_right (by decide) (by omega))
  unfold Dst
  refine ⟨by omega, ?_⟩
  have e : (2 : Nat) ^ 2145 = 8 * 2 ^ 2142 := by rw [show 2145 = 3 + 2142 from rfl, Nat.pow_add]
  rw [e]
  generalize (2 : Nat) ^ 2142 = W at *
  omega
theorem vok_dn {Ls : List Ln} (L : LsOk 36 Ls) {v : P} (h : VOk 36 Ls v) : Dn (Dst Ls) v.1 ∧ Dn (Dst Ls) v.2 := by
  rcases h with h | ⟨g, hg, k, hk, gv, kv, hc⟩
  · exact ⟨h.1.dn.up (Nat.dvd_mul_right ..), h.2.dn.up (Nat.dvd_mul_right ..)⟩
  · obtain ⟨n, hn, en, ln, h1, h2⟩ := meet_grid L hg hk gv kv hc
    have e : cn g k = n.natAbs := by
      unfold cn
      rw [if_neg hc, en, Rat.num_intCast]
    have hd : 6 * n.natAbs ∣ Dst Ls := by
      rw [← e]
      exact Nat.mul_dvd_mul_left 6 (dvd_prod (mem_prs hg hk hc))
    exact ⟨h1.dn.up hd, h2.dn.up hd⟩
theorem gd_mg {v : P} (h : Gd v) : Mg (2 ^ 22) v.1 ∧ Mg (2 ^ 22) v.2 := by
  obtain ⟨D, M, h0, _, hM, x, y⟩ := h
  exact ⟨(x.mg h0).mono (by omega), (y.mg h0).mono (by omega)⟩
theorem cr_mg {a b : P} (ha : Gd a) (hb : Gd b) : Mg (2 ^ 45) (cr a b) := by
  have h1 := ((gd_mg ha).1.mul (gd_mg hb).2)
  have h2 := ((gd_mg ha).2.mul (gd_mg hb).1)
  exact (h1.sub h2).mono (by decide)
theorem cr_dn {Ls : List Ln} (L : LsOk 36 Ls) {a b : P} (ha : VOk 36 Ls a) (hb : VOk 36 Ls b) : Dn (Dst Ls * Dst Ls) (cr a b) :=
  ((vok_dn L ha).1.mul (vok_dn L hb).2).sub ((vok_dn L ha).2.mul (vok_dn L hb).1)
theorem walk_b {Ls : List Ln} (L : LsOk 36 Ls) : ∀ (bs : List P) (a : P), (∀ v ∈ a :: bs, VOk 36 Ls v) → Dn (Dst Ls * Dst Ls) (walk cr a bs) ∧ Mg (2 ^ 45 * bs.length) (walk cr a bs)
  | [], a, _ => ⟨Dn.zero _, by unfold Mg walk; simp⟩
  | b :: bs, a, h => by
    have ih := walk_b L bs b fun v hv => h v (List.mem_cons_of_mem _ hv)
    have ha := h a (by simp)
    have hb := h b (by simp)
    refine ⟨(cr_dn L ha hb).add ih.1, ?_⟩
    refine ((cr_mg (gd_of L (by decide) ha) (gd_of L (by decide) hb)).add ih.2).mono ?_
    rw [List.length_cons, Nat.mul_add]; omega
theorem cyc_b {Ls : List Ln} (L : LsOk 36 Ls) {X : List P} (h : ∀ v ∈ X, VOk 36 Ls v) : Dn (Dst Ls * Dst Ls) (cyc cr X) ∧ Mg (2 ^ 45 * X.length) (cyc cr X) := by
  cases X with
  | nil => exact ⟨Dn.zero _, by unfold Mg cyc; simp⟩
  | cons p ps =>
    have := walk_b L (ps ++ [p]) p fun v hv => by
      rcases List.mem_cons.mp hv with rfl | hv
      · exact h v (by simp)
      · rcases List.mem_append.mp hv with hv | hv
        · exact h v (List.mem_cons_of_mem _ hv)
        · rw [List.mem_singleton.mp hv]; exact h p (by simp)
    have e : (ps ++ [p]).length = (p :: ps).length := by simp
    rw [e] at this
    exact this
theorem tot_b {Ls : List Ln} (L : LsOk 36 Ls) : ∀ (Xs : List (List P)), (∀ X ∈ Xs, X.length ≤ 64 ∧ ∀ v ∈ X, VOk 36 Ls v) → Dn (Dst Ls * Dst Ls) (tot cr Xs) ∧ Mg (2 ^ 51 * Xs.length) (tot cr Xs)
  | [], _ => ⟨Dn.zero _, by unfold Mg tot; simp⟩
  | X :: Xs, h => by
    have ih := tot_b L Xs fun Y hY => h Y (List.mem_cons_of_mem _ hY)
    have h1 := cyc_b L (h X (by simp)).2
    have hl := (h X (by simp)).1
    rw [tot_cons]
    refine ⟨h1.1.add ih.1, (h1.2.add ih.2).mono ?_⟩
    have : 2 ^ 45 * X.length ≤ 2 ^ 45 * 64 := Nat.mul_le_mul_left _ hl
    have e : (2 : Nat) ^ 45 * 64 = 2 ^ 51 := by decide
    rw [List.length_cons, Nat.mul_add]
    omega
theorem tot_sz {Ls : List Ln} (L : LsOk 36 Ls) (hl : Ls.length ≤ 18) {Xs : List (List P)} (h : ∀ X ∈ Xs, X.length ≤ 64 ∧ ∀ v ∈ X, VOk 36 Ls v) (hn : Xs.length ≤ 2 ^ 20) : Sz 4400 (tot cr Xs) := by
  obtain ⟨h1, h2⟩ := tot_b L Xs h
  obtain ⟨d0, d1⟩ := dst_bound L hl
  have d2 : Dst Ls * Dst Ls ≤ 2 ^ 4290 := by
    have := Nat.mul_le_mul d1 d1
    rwa [← Nat.pow_add] at this
  have m1 : 2 ^ 51 * Xs.length ≤ 2 ^ 71 := by
    have := Nat.mul_le_mul_left (2 ^ 51) hn
    rwa [← Nat.pow_add] at this
  refine sz_of h1 h2 (Nat.mul_pos d0 d0) (Nat.lt_of_le_of_lt d2 (Nat.pow_lt_pow_right (by decide) (by decide))) ?_
  have := Nat.mul_le_mul m1 d2
  rw [← Nat.pow_add] at this
  exact Nat.lt_of_le_of_lt this (Nat.pow_lt_pow_right (by decide) (by decide))
end MP

/-! the defs as MiniPy. -/
namespace K28
open PySem L2 MP
/-- 0 common_numbers: 0=a 1=b -/
def d_common_numbers : Fd := ⟨2, 2, (.cons (.set 0 (.prim .abs (.cons (.slot 0) .nil))) (.cons (.set 1 (.prim .abs (.cons (.slot 1) .nil))) (.cons (.whileS (.cmp .gt (.slot 1) (.cint 0)) (.cons (.par 0 1 (.slot 1) (.bin .mod (.slot 0) (.slot 1))) .nil)) (.cons (.ret (.slot 0)) .nil))))⟩
/-- 1 fraction: 0=number 1=divisor 2=shared -/
def d_fraction : Fd := ⟨2, 3, (.cons (.ifS (.cmp .eq (.slot 1) (.cint 0)) (.cons .bad .nil) .nil) (.cons (.set 2 (.call 0 (.cons (.slot 0) (.cons (.slot 1) .nil)) [])) (.cons (.ifS (.cmp .lt (.slot 1) (.cint 0)) (.cons (.set 2 (.neg (.slot 2))) .nil) .nil) (.cons (.ret (.tup (.cons (.bin .fdiv (.slot 0) (.slot 2)) (.cons (.bin .fdiv (.slot 1) (.slot 2)) .nil)))) .nil))))⟩
/-- 2 plus: 0=a 1=b -/
def d_plus : Fd := ⟨2, 2, (.cons (.ret (.call 1 (.cons (.bin .add (.bin .mul (.idx (.slot 0) (.cint 0)) (.idx (.slot 1) (.cint 1))) (.bin .mul (.idx (.slot 1) (.cint 0)) (.idx (.slot 0) (.cint 1)))) (.cons (.bin .mul (.idx (.slot 0) (.cint 1)) (.idx (.slot 1) (.cint 1))) .nil)) [])) .nil)⟩
/-- 3 minus: 0=a 1=b -/
def d_minus : Fd := ⟨2, 2, (.cons (.ret (.call 1 (.cons (.bin .sub (.bin .mul (.idx (.slot 0) (.cint 0)) (.idx (.slot 1) (.cint 1))) (.bin .mul (.idx (.slot 1) (.cint 0)) (.idx (.slot 0) (.cint 1)))) (.cons (.bin .mul (.idx (.slot 0) (.cint 1)) (.idx (.slot 1) (.cint 1))) .nil)) [])) .nil)⟩
/-- 4 times: 0=a 1=b -/
def d_times : Fd := ⟨2, 2, (.cons (.ret (.call 1 (.cons (.bin .mul (.idx (.slot 0) (.cint 0)) (.idx (.slot 1) (.cint 0))) (.cons (.bin .mul (.idx (.slot 0) (.cint 1)) (.idx (.slot 1) (.cint 1))) .nil)) [])) .nil)⟩
/-- 5 over: 0=a 1=b -/
def d_over : Fd := ⟨2, 2, (.cons (.ret (.call 1 (.cons (.bin .mul (.idx (.slot 0) (.cint 0)) (.idx (.slot 1) (.cint 1))) (.cons (.bin .mul (.idx (.slot 0) (.cint 1)) (.idx (.slot 1) (.cint 0))) .nil)) [])) .nil)⟩
/-- 6 less: 0=a 1=b -/
def d_less : Fd := ⟨2, 2, (.cons (.ret (.cmp .lt (.bin .mul (.idx (.slot 0) (.cint 0)) (.idx (.slot 1) (.cint 1))) (.bin .mul (.idx (.slot 1) (.cint 0)) (.idx (.slot 0) (.cint 1))))) .nil)⟩
/-- 7 sign: 0=a -/
def d_sign : Fd := ⟨1, 1, (.cons (.ifS (.cmp .lt (.idx (.slot 0) (.cint 0)) (.cint 0)) (.cons (.ret (.neg (.cint 1))) .nil) .nil) (.cons (.ifS (.cmp .gt (.idx (.slot 0) (.cint 0)) (.cint 0)) (.cons (.ret (.cint 1)) .nil) .nil) (.cons (.ret (.cint 0)) .nil)))⟩
/-- 8 turn: 0=a 1=b 2=c 3=across -/
def d_turn : Fd := ⟨3, 4, (.cons (.set 3 (.call 4 (.cons (.call 3 (.cons (.idx (.slot 1) (.cint 0)) (.cons (.idx (.slot 0) (.cint 0)) .nil)) []) (.cons (.call 3 (.cons (.idx (.slot 2) (.cint 1)) (.cons (.idx (.slot 0) (.cint 1)) .nil)) []) .nil)) [])) (.cons (.ret (.call 3 (.cons (.slot 3) (.cons (.call 4 (.cons (.call 3 (.cons (.idx (.slot 1) (.cint 1)) (.cons (.idx (.slot 0) (.cint 1)) .nil)) []) (.cons (.call 3 (.cons (.idx (.slot 2) (.cint 0)) (.cons (.idx (.slot 0) (.cint 0)) .nil)) []) .nil)) []) .nil)) [])) .nil))⟩
/-- 9 smaller: 0=a 1=b -/
def d_smaller : Fd := ⟨2, 2, (.cons (.ret (.orV (.cons (.call 6 (.cons (.idx (.slot 0) (.cint 0)) (.cons (.idx (.slot 1) (.cint 0)) .nil)) []) (.cons (.andV (.cons (.cmp .eq (.idx (.slot 0) (.cint 0)) (.idx (.slot 1) (.cint 0))) (.cons (.call 6 (.cons (.idx (.slot 0) (.cint 1)) (.cons (.idx (.slot 1) (.cint 1)) .nil)) []) .nil))) .nil)))) .nil)⟩
/-- 10 put_in: 0=point 1=row 2=at -/
def d_put_in : Fd := ⟨2, 3, (.cons (.set 2 (.cint 0)) (.cons (.whileS (.and (.cons (.cmp .lt (.slot 2) (.prim .len (.cons (.slot 1) .nil))) (.cons (.tru (.call 9 (.cons (.idx (.slot 1) (.slot 2)) (.cons (.slot 0) .nil)) [])) .nil))) (.cons (.set 2 (.bin .add (.slot 2) (.cint 1))) .nil)) (.cons (.ifS (.and (.cons (.cmp .lt (.slot 2) (.prim .len (.cons (.slot 1) .nil))) (.cons (.cmp .eq (.idx (.slot 1) (.slot 2)) (.slot 0)) .nil))) (.cons (.ret (.slot 1)) .nil) .nil) (.cons (.ret (.bin .add (.bin .add (.slc (.slot 1) .none (.some (.slot 2))) (.lst (.cons (.slot 0) .nil))) (.slc (.slot 1) (.some (.slot 2)) .none))) .nil))))⟩
/-- 11 chain: 0=row 1=found 2=point -/
def d_chain : Fd := ⟨1, 3, (.cons (.setM 1 (.lst .nil)) (.cons (.forS [2] (.seq (.slot 0)) (.cons (.whileS (.and (.cons (.cmp .gt (.prim .len (.cons (.slot 1) .nil)) (.cint 1)) (.cons (.cmp .le (.call 7 (.cons (.call 8 (.cons (.idx (.slot 1) (.neg (.cint 2))) (.cons (.idx (.slot 1) (.neg (.cint 1))) (.cons (.slot 2) .nil))) []) .nil) []) (.cint 0)) .nil))) (.cons (.popE 1) .nil)) (.cons (.app 1 (.slot 2)) .nil))) (.cons (.frz 1) (.cons (.ret (.slot 1)) .nil))))⟩
/-- 12 hull: 0=points 1=row 2=point 3=found -/
def d_hull : Fd := ⟨1, 4, (.cons (.set 1 (.lst .nil)) (.cons (.forS [2] (.seq (.slot 0)) (.cons (.set 1 (.call 10 (.cons (.slot 2) (.cons (.slot 1) .nil)) [])) .nil)) (.cons (.set 3 (.bin .add (.slc (.call 11 (.cons (.slot 1) .nil) []) .none (.some (.neg (.cint 1)))) (.slc (.call 11 (.cons (.rev (.slot 1)) .nil) []) .none (.some (.neg (.cint 1)))))) (.cons (.ret (.ite (.cmp .gt (.prim .len (.cons (.slot 3) .nil)) (.cint 2)) (.slot 3) (.lst .nil))) .nil))))⟩
/-- 13 size_of: 0=polygon 1=found 2=k -/
def d_size_of : Fd := ⟨1, 3, (.cons (.set 1 (.tup (.cons (.cint 0) (.cons (.cint 1) .nil)))) (.cons (.forS [2] (.rng2 (.cint 1) (.bin .sub (.prim .len (.cons (.slot 0) .nil)) (.cint 1))) (.cons (.set 1 (.call 2 (.cons (.slot 1) (.cons (.call 8 (.cons (.idx (.slot 0) (.cint 0)) (.cons (.idx (.slot 0) (.slot 2)) (.cons (.idx (.slot 0) (.bin .add (.slot 2) (.cint 1))) .nil))) []) .nil)) [])) .nil)) (.cons (.ret (.slot 1)) .nil)))⟩
/-- 14 crossing: 0=a 1=b 2=at_a 3=at_b 4=part 5=k -/
def d_crossing : Fd := ⟨4, 6, (.cons (.set 4 (.call 5 (.cons (.slot 2) (.cons (.call 3 (.cons (.slot 2) (.cons (.slot 3) .nil)) []) .nil)) [])) (.cons (.ret (.prim .tuple (.cons (.comp (.call 2 (.cons (.idx (.slot 0) (.slot 5)) (.cons (.call 4 (.cons (.slot 4) (.cons (.call 3 (.cons (.idx (.slot 1) (.slot 5)) (.cons (.idx (.slot 0) (.slot 5)) .nil)) []) .nil)) []) .nil)) []) [5] (.rng1 (.cint 2)) .nil [5]) .nil))) .nil))⟩
/-- 15 left_of: 0=polygon 1=start 2=end 3=amounts 4=found 5=k 6=other 7=point -/
def d_left_of : Fd := ⟨3, 8, (.cons (.set 3 (.comp (.call 8 (.cons (.slot 1) (.cons (.slot 2) (.cons (.slot 7) .nil))) []) [7] (.seq (.slot 0)) .nil [7])) (.cons (.setM 4 (.lst .nil)) (.cons (.forS [5] (.rng1 (.prim .len (.cons (.slot 0) .nil))) (.cons (.set 6 (.bin .mod (.bin .add (.slot 5) (.cint 1)) (.prim .len (.cons (.slot 0) .nil)))) (.cons (.ifS (.cmp .ge (.idx (.idx (.slot 3) (.slot 5)) (.cint 0)) (.cint 0)) (.cons (.app 4 (.idx (.slot 0) (.slot 5))) .nil) .nil) (.cons (.ifS (.cmp .lt (.bin .mul (.call 7 (.cons (.idx (.slot 3) (.slot 5)) .nil) []) (.call 7 (.cons (.idx (.slot 3) (.slot 6)) .nil) [])) (.cint 0)) (.cons (.app 4 (.call 14 (.cons (.idx (.slot 0) (.slot 5)) (.cons (.idx (.slot 0) (.slot 6)) (.cons (.idx (.slot 3) (.slot 5)) (.cons (.idx (.slot 3) (.slot 6)) .nil)))) [])) .nil) .nil) .nil)))) (.cons (.frz 4) (.cons (.ret (.ite (.cmp .gt (.prim .len (.cons (.slot 4) .nil)) (.cint 2)) (.slot 4) (.lst .nil))) .nil)))))⟩
/-- 16 sides_of: 0=polygon 1=k -/
def d_sides_of : Fd := ⟨1, 2, (.cons (.ret (.comp (.tup (.cons (.idx (.slot 0) (.slot 1)) (.cons (.idx (.slot 0) (.bin .mod (.bin .add (.slot 1) (.cint 1)) (.prim .len (.cons (.slot 0) .nil)))) .nil))) [1] (.rng1 (.prim .len (.cons (.slot 0) .nil))) .nil [1])) .nil)⟩
/-- 17 common_polygons: 0=polygon 1=other 2=found 3=start 4=end -/
def d_common_polygons : Fd := ⟨2, 5, (.cons (.set 2 (.slot 0)) (.cons (.forS [3, 4] (.seq (.call 16 (.cons (.slot 1) .nil) [])) (.cons (.ifS (.tru (.slot 2)) (.cons (.set 2 (.call 15 (.cons (.slot 2) (.cons (.slot 3) (.cons (.slot 4) .nil))) [])) .nil) .nil) .nil)) (.cons (.ret (.slot 2)) .nil)))⟩
/-- 18 cut_out: 0=polygon 1=other 2=found 3=rest 4=start 5=end 6=outside -/
def d_cut_out : Fd := ⟨2, 7, (.cons (.ifS (.not (.tru (.call 17 (.cons (.slot 0) (.cons (.slot 1) .nil)) []))) (.cons (.ret (.lst (.cons (.slot 0) .nil))) .nil) .nil) (.cons (.setM 2 (.lst .nil)) (.cons (.set 3 (.slot 0)) (.cons (.forS [4, 5] (.seq (.call 16 (.cons (.slot 1) .nil) [])) (.cons (.set 6 (.call 15 (.cons (.slot 3) (.cons (.slot 5) (.cons (.slot 4) .nil))) [])) (.cons (.ifS (.tru (.slot 6)) (.cons (.app 2 (.slot 6)) .nil) .nil) (.cons (.set 3 (.call 15 (.cons (.slot 3) (.cons (.slot 4) (.cons (.slot 5) .nil))) [])) .nil)))) (.cons (.frz 2) (.cons (.ret (.slot 2)) .nil))))))⟩
/-- 19 without: 0=polygon 1=others 2=pieces 3=other 4=found 5=piece 6=rest -/
def d_without : Fd := ⟨2, 7, (.cons (.set 2 (.lst (.cons (.slot 0) .nil))) (.cons (.forS [3] (.seq (.slot 1)) (.cons (.set 6 (.lst .nil)) (.cons (.forS [5] (.seq (.slot 2)) (.cons (.set 6 (.bin .add (.slot 6) (.call 18 (.cons (.slot 5) (.cons (.slot 3) .nil)) []))) .nil)) (.cons (.set 2 (.slot 6)) .nil)))) (.cons (.set 4 (.tup (.cons (.cint 0) (.cons (.cint 1) .nil)))) (.cons (.forS [5] (.seq (.slot 2)) (.cons (.set 4 (.call 2 (.cons (.slot 4) (.cons (.call 13 (.cons (.slot 5) .nil) []) .nil)) [])) .nil)) (.cons (.ret (.slot 4)) .nil)))))⟩
/-- 20 _law_cell: 0=script 1=k -/
def d_law_cell : Fd := ⟨2, 2, (.cons (.ifS (.cmp .lt (.slot 1) (.prim .len (.cons (.slot 0) .nil))) (.cons (.ret (.bin .mod (.prim .abs (.cons (.prim .int (.cons (.idx (.slot 0) (.slot 1)) .nil)) .nil)) (.bin .pow (.cint 10) (.cint 60)))) .nil) .nil) (.cons (.ret (.cint 0)) .nil))⟩
/-- 21 _law_row: 0=cell 1=size 2=base 3=row 4=number 5=k 6=mixed -/
def d_law_row : Fd := ⟨3, 7, (.cons (.setM 3 (.lst .nil)) (.cons (.set 4 (.slot 0)) (.cons (.forS [5] (.rng1 (.slot 1)) (.cons (.ifS (.cmp .ge (.slot 0) (.bin .pow (.cint 10) (.cint 18))) (.cons (.app 3 (.bin .mod (.prim .int (.cons (.slot 4) .nil)) (.slot 2))) (.cons (.set 4 (.bin .fdiv (.slot 4) (.slot 2))) .nil)) (.cons (.set 6 (.bin .mod (.bin .add (.bin .add (.bin .mul (.bin .mod (.prim .int (.cons (.slot 0) .nil)) (.cint 1000003)) (.cint 48271)) (.bin .mul (.slot 5) (.cint 69621))) (.bin .fdiv (.slot 0) (.cint 1000003))) (.cint 2147483647))) (.cons (.set 6 (.bin .mod (.bin .add (.bin .add (.bin .mul (.slot 6) (.cint 16807)) (.bin .mul (.slot 5) (.cint 12345))) (.cint 99991)) (.cint 2147483629))) (.cons (.app 3 (.bin .mod (.bin .fdiv (.slot 6) (.cint 7)) (.slot 2))) .nil)))) .nil)) (.cons (.frz 3) (.cons (.ret (.slot 3)) .nil)))))⟩
/-- 22 _law_fraction: 0=number 1=divisor 2=a 3=b 4=k -/
def d_law_fraction : Fd := ⟨2, 5, (.cons (.set 2 (.prim .abs (.cons (.slot 0) .nil))) (.cons (.set 3 (.prim .abs (.cons (.slot 1) .nil))) (.cons (.forS [4] (.rng1 (.cint 10000)) (.cons (.ifS (.cmp .eq (.slot 3) (.cint 0)) (.cons .brk .nil) .nil) (.cons (.par 2 3 (.slot 3) (.bin .mod (.slot 2) (.slot 3))) .nil))) (.cons (.ifS (.cmp .lt (.slot 1) (.cint 0)) (.cons (.set 2 (.neg (.slot 2))) .nil) .nil) (.cons (.ret (.tup (.cons (.bin .fdiv (.slot 0) (.slot 2)) (.cons (.bin .fdiv (.slot 1) (.slot 2)) .nil)))) .nil)))))⟩
/-- 23 _law_plus: 0=a 1=b -/
def d_law_plus : Fd := ⟨2, 2, (.cons (.ret (.call 22 (.cons (.bin .add (.bin .mul (.idx (.slot 0) (.cint 0)) (.idx (.slot 1) (.cint 1))) (.bin .mul (.idx (.slot 1) (.cint 0)) (.idx (.slot 0) (.cint 1)))) (.cons (.bin .mul (.idx (.slot 0) (.cint 1)) (.idx (.slot 1) (.cint 1))) .nil)) [])) .nil)⟩
/-- 24 _law_minus: 0=a 1=b -/
def d_law_minus : Fd := ⟨2, 2, (.cons (.ret (.call 22 (.cons (.bin .sub (.bin .mul (.idx (.slot 0) (.cint 0)) (.idx (.slot 1) (.cint 1))) (.bin .mul (.idx (.slot 1) (.cint 0)) (.idx (.slot 0) (.cint 1)))) (.cons (.bin .mul (.idx (.slot 0) (.cint 1)) (.idx (.slot 1) (.cint 1))) .nil)) [])) .nil)⟩
/-- 25 _law_times: 0=a 1=b -/
def d_law_times : Fd := ⟨2, 2, (.cons (.ret (.call 22 (.cons (.bin .mul (.idx (.slot 0) (.cint 0)) (.idx (.slot 1) (.cint 0))) (.cons (.bin .mul (.idx (.slot 0) (.cint 1)) (.idx (.slot 1) (.cint 1))) .nil)) [])) .nil)⟩
/-- 26 _law_over: 0=a 1=b -/
def d_law_over : Fd := ⟨2, 2, (.cons (.ret (.call 22 (.cons (.bin .mul (.idx (.slot 0) (.cint 0)) (.idx (.slot 1) (.cint 1))) (.cons (.bin .mul (.idx (.slot 0) (.cint 1)) (.idx (.slot 1) (.cint 0))) .nil)) [])) .nil)⟩
/-- 27 _law_less: 0=a 1=b -/
def d_law_less : Fd := ⟨2, 2, (.cons (.ret (.cmp .lt (.bin .mul (.idx (.slot 0) (.cint 0)) (.idx (.slot 1) (.cint 1))) (.bin .mul (.idx (.slot 1) (.cint 0)) (.idx (.slot 0) (.cint 1))))) .nil)⟩
/-- 28 _law_middle: 0=a 1=b -/
def d_law_middle : Fd := ⟨2, 2, (.cons (.ret (.call 25 (.cons (.call 23 (.cons (.slot 0) (.cons (.slot 1) .nil)) []) (.cons (.tup (.cons (.cint 1) (.cons (.cint 2) .nil))) .nil)) [])) .nil)⟩
/-- 29 _law_turn: 0=a 1=b 2=c 3=left -/
def d_law_turn : Fd := ⟨3, 4, (.cons (.set 3 (.call 25 (.cons (.call 24 (.cons (.idx (.slot 1) (.cint 0)) (.cons (.idx (.slot 0) (.cint 0)) .nil)) []) (.cons (.call 24 (.cons (.idx (.slot 2) (.cint 1)) (.cons (.idx (.slot 0) (.cint 1)) .nil)) []) .nil)) [])) (.cons (.ret (.call 24 (.cons (.slot 3) (.cons (.call 25 (.cons (.call 24 (.cons (.idx (.slot 1) (.cint 1)) (.cons (.idx (.slot 0) (.cint 1)) .nil)) []) (.cons (.call 24 (.cons (.idx (.slot 2) (.cint 0)) (.cons (.idx (.slot 0) (.cint 0)) .nil)) []) .nil)) []) .nil)) [])) .nil))⟩
/-- 30 _law_is_side: 0=points 1=a 2=b 3=c 4=found 5=k -/
def d_law_is_side : Fd := ⟨3, 6, (.cons (.forS [3] (.seq (.slot 0)) (.cons (.set 4 (.call 29 (.cons (.slot 1) (.cons (.slot 2) (.cons (.slot 3) .nil))) [])) (.cons (.ifS (.cmp .lt (.idx (.slot 4) (.cint 0)) (.cint 0)) (.cons (.ret (.cbl false)) .nil) .nil) (.cons (.ifS (.cmp .eq (.idx (.slot 4) (.cint 0)) (.cint 0)) (.cons (.forS [5] (.rng1 (.cint 2)) (.cons (.ifS (.and (.cons (.tru (.call 27 (.cons (.idx (.slot 3) (.slot 5)) (.cons (.idx (.slot 1) (.slot 5)) .nil)) [])) (.cons (.tru (.call 27 (.cons (.idx (.slot 3) (.slot 5)) (.cons (.idx (.slot 2) (.slot 5)) .nil)) [])) .nil))) (.cons (.ret (.cbl false)) .nil) .nil) (.cons (.ifS (.and (.cons (.tru (.call 27 (.cons (.idx (.slot 1) (.slot 5)) (.cons (.idx (.slot 3) (.slot 5)) .nil)) [])) (.cons (.tru (.call 27 (.cons (.idx (.slot 2) (.slot 5)) (.cons (.idx (.slot 3) (.slot 5)) .nil)) [])) .nil))) (.cons (.ret (.cbl false)) .nil) .nil) .nil))) .nil) .nil) .nil)))) (.cons (.ret (.cbl true)) .nil))⟩
/-- 31 _law_hull: 0=points 1=after 2=a 3=row 4=k 5=b 6=c -/
def d_law_hull : Fd := ⟨1, 7, (.cons (.ifS (.cmp .eq (.comp (.slot 6) [6] (.seq (.slot 0)) (.cons (.cmp .ne (.idx (.call 29 (.cons (.idx (.slot 0) (.cint 0)) (.cons (.call 32 (.cons (.slot 0) .nil) []) (.cons (.slot 6) .nil))) []) (.cint 0)) (.cint 0)) .nil) [6]) (.lst .nil)) (.cons (.ret (.lst .nil)) .nil) .nil) (.cons (.dnew 1) (.cons (.forS [2] (.seq (.slot 0)) (.cons (.forS [5] (.seq (.slot 0)) (.cons (.ifS (.and (.cons (.cmp .ne (.slot 2) (.slot 5)) (.cons (.tru (.call 30 (.cons (.slot 0) (.cons (.slot 2) (.cons (.slot 5) .nil))) [])) .nil))) (.cons (.dset 1 (.slot 2) (.slot 5)) .nil) .nil) .nil)) .nil)) (.cons (.setM 3 (.lst (.cons (.call 33 (.cons (.slot 0) .nil) []) .nil))) (.cons (.forS [4] (.rng1 (.prim .len (.cons (.slot 0) .nil))) (.cons (.ifS (.cmp .eq (.dget 1 (.idx (.slot 3) (.neg (.cint 1)))) (.idx (.slot 3) (.cint 0))) (.cons .brk .nil) .nil) (.cons (.app 3 (.dget 1 (.idx (.slot 3) (.neg (.cint 1))))) .nil))) (.cons (.frz 3) (.cons (.ret (.slot 3)) .nil)))))))⟩
/-- 32 _law_other: 0=points 1=point -/
def d_law_other : Fd := ⟨1, 2, (.cons (.forS [1] (.seq (.slot 0)) (.cons (.ifS (.cmp .ne (.slot 1) (.idx (.slot 0) (.cint 0))) (.cons (.ret (.slot 1)) .nil) .nil) .nil)) (.cons (.ret (.idx (.slot 0) (.cint 0))) .nil))⟩
/-- 33 _law_least: 0=points 1=best 2=point -/
def d_law_least : Fd := ⟨1, 3, (.cons (.set 1 (.idx (.slot 0) (.cint 0))) (.cons (.forS [2] (.seq (.slot 0)) (.cons (.ifS (.or (.cons (.tru (.call 27 (.cons (.idx (.slot 2) (.cint 0)) (.cons (.idx (.slot 1) (.cint 0)) .nil)) [])) (.cons (.and (.cons (.cmp .eq (.idx (.slot 2) (.cint 0)) (.idx (.slot 1) (.cint 0))) (.cons (.tru (.call 27 (.cons (.idx (.slot 2) (.cint 1)) (.cons (.idx (.slot 1) (.cint 1)) .nil)) [])) .nil))) .nil))) (.cons (.set 1 (.slot 2)) .nil) .nil) .nil)) (.cons (.ret (.slot 1)) .nil)))⟩
/-- 34 _law_twice: 0=polygon 1=found 2=k -/
def d_law_twice : Fd := ⟨1, 3, (.cons (.set 1 (.tup (.cons (.cint 0) (.cons (.cint 1) .nil)))) (.cons (.forS [2] (.rng2 (.cint 1) (.bin .sub (.prim .len (.cons (.slot 0) .nil)) (.cint 1))) (.cons (.set 1 (.call 23 (.cons (.slot 1) (.cons (.call 29 (.cons (.idx (.slot 0) (.cint 0)) (.cons (.idx (.slot 0) (.slot 2)) (.cons (.idx (.slot 0) (.bin .add (.slot 2) (.cint 1))) .nil))) []) .nil)) [])) .nil)) (.cons (.ret (.slot 1)) .nil)))⟩
/-- 35 _law_clip: 0=polygon 1=start 2=end 3=found 4=k 5=a 6=b 7=one 8=other 9=part 10=j -/
def d_law_clip : Fd := ⟨3, 11, (.cons (.setM 3 (.lst .nil)) (.cons (.forS [4] (.rng1 (.prim .len (.cons (.slot 0) .nil))) (.cons (.set 5 (.idx (.slot 0) (.slot 4))) (.cons (.set 6 (.idx (.slot 0) (.bin .mod (.bin .add (.slot 4) (.cint 1)) (.prim .len (.cons (.slot 0) .nil))))) (.cons (.set 7 (.call 29 (.cons (.slot 1) (.cons (.slot 2) (.cons (.slot 5) .nil))) [])) (.cons (.set 8 (.call 29 (.cons (.slot 1) (.cons (.slot 2) (.cons (.slot 6) .nil))) [])) (.cons (.ifS (.cmp .ge (.idx (.slot 7) (.cint 0)) (.cint 0)) (.cons (.app 3 (.slot 5)) .nil) .nil) (.cons (.ifS (.cmp .lt (.bin .mul (.idx (.slot 7) (.cint 0)) (.idx (.slot 8) (.cint 0))) (.cint 0)) (.cons (.set 9 (.call 26 (.cons (.slot 7) (.cons (.call 24 (.cons (.slot 7) (.cons (.slot 8) .nil)) []) .nil)) [])) (.cons (.app 3 (.prim .tuple (.cons (.comp (.call 23 (.cons (.idx (.slot 5) (.slot 10)) (.cons (.call 25 (.cons (.slot 9) (.cons (.call 24 (.cons (.idx (.slot 6) (.slot 10)) (.cons (.idx (.slot 5) (.slot 10)) .nil)) []) .nil)) []) .nil)) []) [10] (.rng1 (.cint 2)) .nil [10]) .nil))) .nil)) .nil) .nil))))))) (.cons (.frz 3) (.cons (.ret (.slot 3)) .nil))))⟩
/-- 36 _law_shared: 0=polygons 1=found 2=other 3=k -/
def d_law_shared : Fd := ⟨1, 4, (.cons (.set 1 (.idx (.slot 0) (.cint 0))) (.cons (.forS [2] (.seq (.slc (.slot 0) (.some (.cint 1)) .none)) (.cons (.forS [3] (.rng1 (.prim .len (.cons (.slot 2) .nil))) (.cons (.ifS (.cmp .ne (.slot 1) (.lst .nil)) (.cons (.set 1 (.call 35 (.cons (.slot 1) (.cons (.idx (.slot 2) (.slot 3)) (.cons (.idx (.slot 2) (.bin .mod (.bin .add (.slot 3) (.cint 1)) (.prim .len (.cons (.slot 2) .nil)))) .nil))) [])) .nil) .nil) .nil)) .nil)) (.cons (.ret (.call 34 (.cons (.slot 1) .nil) [])) .nil)))⟩
/-- 37 _law_points: 0=script 1=found 2=k 3=draw 4=divisor 5=point 6=j -/
def d_law_points : Fd := ⟨1, 7, (.cons (.setM 1 (.lst .nil)) (.cons (.forS [2] (.rng1 (.bin .mod (.prim .int (.cons (.call 20 (.cons (.slot 0) (.cons (.cint 5) .nil)) []) .nil)) (.cint 11))) (.cons (.set 3 (.call 21 (.cons (.call 20 (.cons (.slot 0) (.cons (.bin .add (.cint 6) (.slot 2)) .nil)) []) (.cons (.cint 4) (.cons (.cint 1000) .nil))) [])) (.cons (.set 4 (.bin .add (.cint 1) (.bin .mod (.idx (.slot 3) (.cint 2)) (.cint 3)))) (.cons (.set 5 (.tup (.cons (.call 22 (.cons (.bin .sub (.bin .mod (.idx (.slot 3) (.cint 0)) (.cint 11)) (.cint 5)) (.cons (.slot 4) .nil)) []) (.cons (.call 22 (.cons (.bin .sub (.bin .mod (.idx (.slot 3) (.cint 1)) (.cint 11)) (.cint 5)) (.cons (.slot 4) .nil)) []) .nil)))) (.cons (.ifS (.and (.cons (.cmp .eq (.bin .mod (.idx (.slot 3) (.cint 3)) (.cint 7)) (.cint 0)) (.cons (.cmp .ne (.slot 1) (.lst .nil)) .nil))) (.cons (.set 5 (.idx (.slot 1) (.bin .mod (.bin .fdiv (.idx (.slot 3) (.cint 3)) (.cint 7)) (.prim .len (.cons (.slot 1) .nil))))) .nil) .nil) (.cons (.ifS (.and (.cons (.cmp .eq (.bin .mod (.idx (.slot 3) (.cint 3)) (.cint 7)) (.cint 1)) (.cons (.cmp .gt (.prim .len (.cons (.slot 1) .nil)) (.cint 1)) .nil))) (.cons (.set 5 (.prim .tuple (.cons (.comp (.call 28 (.cons (.idx (.idx (.slot 1) (.cint 0)) (.slot 6)) (.cons (.idx (.idx (.slot 1) (.cint 1)) (.slot 6)) .nil)) []) [6] (.rng1 (.cint 2)) .nil [6]) .nil))) .nil) .nil) (.cons (.app 1 (.slot 5)) .nil))))))) (.cons (.frz 1) (.cons (.ret (.slot 1)) .nil))))⟩
/-- 38 _law_shoelace: 0=row 1=found 2=k 3=a 4=b -/
def d_law_shoelace : Fd := ⟨1, 5, (.cons (.set 1 (.tup (.cons (.cint 0) (.cons (.cint 1) .nil)))) (.cons (.forS [2] (.rng1 (.prim .len (.cons (.slot 0) .nil))) (.cons (.set 3 (.idx (.slot 0) (.slot 2))) (.cons (.set 4 (.idx (.slot 0) (.bin .mod (.bin .add (.slot 2) (.cint 1)) (.prim .len (.cons (.slot 0) .nil))))) (.cons (.set 1 (.call 23 (.cons (.slot 1) (.cons (.call 24 (.cons (.call 25 (.cons (.idx (.slot 3) (.cint 0)) (.cons (.idx (.slot 4) (.cint 1)) .nil)) []) (.cons (.call 25 (.cons (.idx (.slot 4) (.cint 0)) (.cons (.idx (.slot 3) (.cint 1)) .nil)) []) .nil)) []) .nil)) [])) .nil)))) (.cons (.ret (.slot 1)) .nil)))⟩
/-- 39 _law_right_hull: 0=points 1=due 2=handed 3=found -/
def d_law_right_hull : Fd := ⟨1, 4, (.cons (.set 1 (.lst .nil)) (.cons (.ifS (.cmp .ne (.slot 0) (.lst .nil)) (.cons (.set 1 (.call 31 (.cons (.slot 0) .nil) [])) .nil) .nil) (.cons (.set 2 (.prim .list (.cons (.slot 0) .nil))) (.cons (.set 3 (.call 12 (.cons (.slot 2) .nil) [])) (.cons (.ifS (.or (.cons (.cmp .ne (.slot 2) (.slot 0)) (.cons (.cmp .ne (.slot 3) (.slot 1)) .nil))) (.cons (.ret (.cbl false)) .nil) .nil) (.cons (.ifS (.cmp .eq (.slot 1) (.lst .nil)) (.cons (.ret (.cbl true)) .nil) .nil) (.cons (.ret (.andV (.cons (.cmp .eq (.call 13 (.cons (.prim .list (.cons (.slot 1) .nil)) .nil) []) (.call 38 (.cons (.slot 1) .nil) [])) (.cons (.cmp .eq (.call 13 (.cons (.bin .add (.slc (.slot 1) (.some (.cint 1)) .none) (.slc (.slot 1) .none (.some (.cint 1)))) .nil) []) (.call 38 (.cons (.slot 1) .nil) [])) .nil)))) .nil)))))))⟩
/-- 40 _law_drawn: 0=cell 1=draw 2=found 3=k 4=row 5=divisor -/
def d_law_drawn : Fd := ⟨1, 6, (.cons (.set 1 (.call 21 (.cons (.slot 0) (.cons (.cint 13) (.cons (.cint 1000) .nil))) [])) (.cons (.setM 2 (.lst .nil)) (.cons (.forS [3] (.rng1 (.bin .add (.cint 3) (.bin .mod (.idx (.slot 1) (.cint 12)) (.cint 4)))) (.cons (.set 5 (.bin .add (.cint 1) (.bin .mod (.bin .fdiv (.idx (.slot 1) (.bin .mul (.cint 2) (.slot 3))) (.cint 13)) (.cint 3)))) (.cons (.app 2 (.tup (.cons (.call 22 (.cons (.bin .sub (.bin .mod (.idx (.slot 1) (.bin .mul (.cint 2) (.slot 3))) (.cint 13)) (.cint 6)) (.cons (.slot 5) .nil)) []) (.cons (.call 22 (.cons (.bin .sub (.bin .mod (.idx (.slot 1) (.bin .add (.bin .mul (.cint 2) (.slot 3)) (.cint 1))) (.cint 13)) (.cint 6)) (.cons (.slot 5) .nil)) []) .nil)))) .nil))) (.cons (.frz 2) (.cons (.set 4 (.call 31 (.cons (.slot 2) .nil) [])) (.cons (.ifS (.cmp .eq (.slot 4) (.lst .nil)) (.cons (.set 4 (.lst (.cons (.tup (.cons (.tup (.cons (.cint 0) (.cons (.cint 1) .nil))) (.cons (.tup (.cons (.cint 0) (.cons (.cint 1) .nil))) .nil))) (.cons (.tup (.cons (.tup (.cons (.cint 3) (.cons (.cint 1) .nil))) (.cons (.tup (.cons (.cint 0) (.cons (.cint 1) .nil))) .nil))) (.cons (.tup (.cons (.tup (.cons (.cint 1) (.cons (.cint 1) .nil))) (.cons (.tup (.cons (.cint 2) (.cons (.cint 1) .nil))) .nil))) .nil))))) .nil) .nil) (.cons (.ret (.slot 4)) .nil)))))))⟩
/-- 41 _law_is_left: 0=row 1=start 2=end 3=point -/
def d_law_is_left : Fd := ⟨3, 4, (.cons (.forS [3] (.seq (.slot 0)) (.cons (.ifS (.cmp .lt (.idx (.call 29 (.cons (.slot 1) (.cons (.slot 2) (.cons (.slot 3) .nil))) []) (.cint 0)) (.cint 0)) (.cons (.ret (.cbl false)) .nil) .nil) .nil)) (.cons (.ret (.orV (.cons (.cmp .eq (.slot 0) (.lst .nil)) (.cons (.cmp .gt (.prim .len (.cons (.slot 0) .nil)) (.cint 2)) .nil)))) .nil))⟩
/-- 42 law: 0=script 1=first 2=others 3=draw 4=start 5=end 6=one 7=other 8=due 9=polygon 10=handed 11=k -/
def d_law : Fd := ⟨1, 12, (.cons (.ifS (.not (.tru (.call 39 (.cons (.call 37 (.cons (.slot 0) .nil) []) .nil) []))) (.cons (.ret (.cbl false)) .nil) .nil) (.cons (.set 1 (.call 40 (.cons (.call 20 (.cons (.slot 0) (.cons (.cint 0) .nil)) []) .nil) [])) (.cons (.set 2 (.comp (.call 40 (.cons (.call 20 (.cons (.slot 0) (.cons (.bin .add (.cint 1) (.slot 11)) .nil)) []) .nil) []) [11] (.rng1 (.bin .mod (.prim .int (.cons (.call 20 (.cons (.slot 0) (.cons (.cint 3) .nil)) []) .nil)) (.cint 3))) .nil [11])) (.cons (.set 3 (.call 21 (.cons (.call 20 (.cons (.slot 0) (.cons (.cint 4) .nil)) []) (.cons (.cint 4) (.cons (.cint 1000) .nil))) [])) (.cons (.set 4 (.tup (.cons (.call 22 (.cons (.bin .sub (.bin .mod (.idx (.slot 3) (.cint 0)) (.cint 13)) (.cint 6)) (.cons (.cint 2) .nil)) []) (.cons (.call 22 (.cons (.bin .sub (.bin .mod (.idx (.slot 3) (.cint 1)) (.cint 13)) (.cint 6)) (.cons (.cint 2) .nil)) []) .nil)))) (.cons (.set 5 (.tup (.cons (.call 23 (.cons (.idx (.slot 4) (.cint 0)) (.cons (.tup (.cons (.bin .add (.cint 1) (.bin .mod (.idx (.slot 3) (.cint 2)) (.cint 5))) (.cons (.cint 1) .nil))) .nil)) []) (.cons (.call 23 (.cons (.idx (.slot 4) (.cint 1)) (.cons (.tup (.cons (.bin .sub (.bin .mod (.idx (.slot 3) (.cint 3)) (.cint 9)) (.cint 4)) (.cons (.cint 1) .nil))) .nil)) []) .nil)))) (.cons (.set 6 (.call 15 (.cons (.prim .list (.cons (.slot 1) .nil)) (.cons (.slot 4) (.cons (.slot 5) .nil))) [])) (.cons (.set 7 (.call 15 (.cons (.prim .list (.cons (.slot 1) .nil)) (.cons (.slot 5) (.cons (.slot 4) .nil))) [])) (.cons (.ifS (.or (.cons (.not (.tru (.call 41 (.cons (.slot 6) (.cons (.slot 4) (.cons (.slot 5) .nil))) []))) (.cons (.not (.tru (.call 41 (.cons (.slot 7) (.cons (.slot 5) (.cons (.slot 4) .nil))) []))) .nil))) (.cons (.ret (.cbl false)) .nil) .nil) (.cons (.ifS (.cmp .ne (.call 13 (.cons (.slot 6) .nil) []) (.call 34 (.cons (.call 35 (.cons (.slot 1) (.cons (.slot 4) (.cons (.slot 5) .nil))) []) .nil) [])) (.cons (.ret (.cbl false)) .nil) .nil) (.cons (.ifS (.cmp .ne (.call 23 (.cons (.call 13 (.cons (.slot 6) .nil) []) (.cons (.call 13 (.cons (.slot 7) .nil) []) .nil)) []) (.call 34 (.cons (.slot 1) .nil) [])) (.cons (.ret (.cbl false)) .nil) .nil) (.cons (.set 8 (.call 34 (.cons (.slot 1) .nil) [])) (.cons (.forS [9] (.seq (.slot 2)) (.cons (.set 8 (.call 24 (.cons (.slot 8) (.cons (.call 36 (.cons (.lst (.cons (.slot 1) (.cons (.slot 9) .nil))) .nil) []) .nil)) [])) .nil)) (.cons (.ifS (.cmp .eq (.prim .len (.cons (.slot 2) .nil)) (.cint 2)) (.cons (.set 8 (.call 23 (.cons (.slot 8) (.cons (.call 36 (.cons (.lst (.cons (.slot 1) (.cons (.idx (.slot 2) (.cint 0)) (.cons (.idx (.slot 2) (.cint 1)) .nil)))) .nil) []) .nil)) [])) .nil) .nil) (.cons (.set 10 (.comp (.prim .list (.cons (.slot 9) .nil)) [9] (.seq (.slot 2)) .nil [9])) (.cons (.ifS (.or (.cons (.cmp .ne (.call 19 (.cons (.prim .list (.cons (.slot 1) .nil)) (.cons (.slot 10) .nil)) []) (.slot 8)) (.cons (.cmp .ne (.slot 10) (.slot 2)) .nil))) (.cons (.ret (.cbl false)) .nil) .nil) (.cons (.ret (.cmp .eq (.call 19 (.cons (.prim .list (.cons (.slot 1) .nil)) (.cons (.bin .add (.slot 10) (.lst (.cons (.prim .list (.cons (.slot 1) .nil)) .nil))) .nil)) []) (.tup (.cons (.cint 0) (.cons (.cint 1) .nil))))) .nil)))))))))))))))))⟩
def tab : List Fd := [d_common_numbers, d_fraction, d_plus, d_minus, d_times, d_over, d_less, d_sign, d_turn, d_smaller, d_put_in, d_chain, d_hull, d_size_of, d_crossing, d_left_of, d_sides_of, d_common_polygons, d_cut_out, d_without, d_law_cell, d_law_row, d_law_fraction, d_law_plus, d_law_minus, d_law_times, d_law_over, d_law_less, d_law_middle, d_law_turn, d_law_is_side, d_law_hull, d_law_other, d_law_least, d_law_twice, d_law_clip, d_law_shared, d_law_points, d_law_shoelace, d_law_right_hull, d_law_drawn, d_law_is_left, d_law]
end K28

/-! runs: turns, orders, chains, hulls. -/
namespace MP
open MG
def ptD (p : P) : D := .tup [fr p.1, fr p.2]
@[simp] theorem pure_ptD (p : P) : pure? (ptD p) = some (ptD p) := id rfl
@[simp] theorem ix_ptD0 (p : P) : ixD (ptD p) (.int 0) = some (fr p.1) := id (ix_t0 ..)
@[simp] theorem ix_ptD1 (p : P) : ixD (ptD p) (.int 1) = some (fr p.2) := id (ix_t1 ..)
def ptsD (X : List P) : D := .lst (X.map ptD)
@[simp] theorem pure_ptsD (X : List P) : pure? (ptsD X) = some (ptsD X) := id rfl
@[simp] theorem len_ptsD (X : List P) : primD .len [ptsD X] = some (.int (X.length : Int)) := by show some (D.int ((X.map ptD).length : Int)) = _; rw [List.length_map]
@[simp] theorem lst_ptsD (X : List P) : lst? (ptsD X) = some (X.map ptD) := id rfl
theorem ix_ptsD {X : List P} {k : Nat} {p : P} (h : X[k]? = some p) : ixD (ptsD X) (.int (k : Int)) = some (ptD p) := ix_lst (by rw [List.getElem?_map, h]; rfl)
theorem ptD_inj {a b : P} (h : ptD a = ptD b) : a = b := by
  unfold ptD at h
  simp only [D.tup.injEq, List.cons.injEq, and_true, fr_eq] at h
  exact Prod.ext h.1 h.2
theorem ok_ptD (p : P) (k : Nat) : okD (k + 2) (ptD p) = true := by
  show okDs (k + 1) [fr p.1, fr p.2] = true
  exact okDs_of fun d hd => by
    simp at hd
    rcases hd with rfl | rfl <;> exact ok_fr _ k
theorem ok_ptsD (X : List P) (k : Nat) : okD (k + 3) (ptsD X) = true := okDs_of fun d hd => by
  obtain ⟨p, _, rfl⟩ := List.mem_map.mp hd
  exact ok_ptD p k
theorem eq_fr (a b : Rat) : cmpD .eq (fr a) (fr b) = some (decide (a = b)) := by
  by_cases h : a = b
  · subst h; rw [eq_same (ok_fr a 0) (by decide)]; simp
  · rw [eq_diff (ok_fr a 0) (ok_fr b 0) (by decide) (by decide) fun e => h (fr_inj e)]; simp [h]
theorem eq_ptD (a b : P) : cmpD .eq (ptD a) (ptD b) = some (decide (a = b)) := by
  by_cases h : a = b
  · subst h; rw [eq_same (ok_ptD a 0) (by decide)]; simp
  · rw [eq_diff (ok_ptD a 0) (ok_ptD b 0) (by decide) (by decide) fun e => h (ptD_inj e)]; simp [h]
theorem ne_ptD (a b : P) : cmpD .ne (ptD a) (ptD b) = some (decide (a ≠ b)) := by
  by_cases h : a = b
  · subst h; rw [ne_same (ok_ptD a 0) (by decide)]; simp
  · rw [ne_diff (ok_ptD a 0) (ok_ptD b 0) (by decide) (by decide) fun e => h (ptD_inj e)]; simp [h]
theorem map_ptD_inj {X Y : List P} (h : X.map ptD = Y.map ptD) : X = Y := by
  induction X generalizing Y with
  | nil => cases Y with | nil => rfl | cons y ys => simp at h
  | cons x xs ih => cases Y with
    | nil => simp at h
    | cons y ys =>
      simp only [List.map_cons, List.cons.injEq] at h
      rw [ptD_inj h.1, ih h.2]
theorem ptsD_inj {X Y : List P} (h : ptsD X = ptsD Y) : X = Y := map_ptD_inj (D.lst.inj h)
theorem ne_ptsD_same (X : List P) : cmpD .ne (ptsD X) (ptsD X) = some false := ne_same (ok_ptsD X 0) (by decide)
theorem eq_nil_pts (X : List P) : cmpD .eq (ptsD X) (.lst []) = some X.isEmpty := by
  have := eq_nil (ds := X.map ptD) (k := 2) (okDs_of fun d hd => by obtain ⟨p, _, rfl⟩ := List.mem_map.mp hd; exact ok_ptD p 0) (by decide)
  rw [List.isEmpty_map] at this
  exact this
theorem ne_nil_pts (X : List P) : cmpD .ne (ptsD X) (.lst []) = some (!X.isEmpty) := by
  show (eqD (ptsD X) (.lst [])).map _ = _
  have : eqD (ptsD X) (.lst []) = some X.isEmpty := eq_nil_pts X
  rw [this]; rfl
/-! ### the four operations -/
structure Os (Φ : Nat → List D → Option D) (pl mi ti ov : Nat) : Prop where
  pl : ∀ a b : Rat, Sz 2400 a → Sz 2400 b → Φ pl [fr a, fr b] = some (fr (a + b))
  mi : ∀ a b : Rat, Sz 2400 a → Sz 2400 b → Φ mi [fr a, fr b] = some (fr (a - b))
  ti : ∀ a b : Rat, Sz 2400 a → Sz 2400 b → Φ ti [fr a, fr b] = some (fr (a * b))
  ov : ∀ a b : Rat, Sz 2400 a → Sz 2400 b → b ≠ 0 → Φ ov [fr a, fr b] = some (fr (a / b))
def turnFd (mi ti : Nat) : Fd := ⟨3, 4, (.cons (.set 3 (.call ti (.cons (.call mi (.cons (.idx (.slot 1) (.cint 0)) (.cons (.idx (.slot 0) (.cint 0)) .nil)) []) (.cons (.call mi (.cons (.idx (.slot 2) (.cint 1)) (.cons (.idx (.slot 0) (.cint 1)) .nil)) []) .nil)) [])) (.cons (.ret (.call mi (.cons (.slot 3) (.cons (.call ti (.cons (.call mi (.cons (.idx (.slot 1) (.cint 1)) (.cons (.idx (.slot 0) (.cint 1)) .nil)) []) (.cons (.call mi (.cons (.idx (.slot 2) (.cint 0)) (.cons (.idx (.slot 0) (.cint 0)) .nil)) []) .nil)) []) .nil)) [])) .nil))⟩
def lessFd : Fd := ⟨2, 2, (.cons (.ret (.cmp .lt (.bin .mul (.idx (.slot 0) (.cint 0)) (.idx (.slot 1) (.cint 1))) (.bin .mul (.idx (.slot 1) (.cint 0)) (.idx (.slot 0) (.cint 1))))) .nil)⟩
def TurnOk (Φ : Nat → List D → Option D) (t : Nat) : Prop := ∀ a b c : P, Gd a → Gd b → Gd c → Φ t [ptD a, ptD b, ptD c] = some (fr (turn a b c))
def LessOk (Φ : Nat → List D → Option D) (t : Nat) : Prop := ∀ a b : Rat, Sz 2400 a → Sz 2400 b → Φ t [fr a, fr b] = some (.bl (decide (a < b)))
section
variable {tab : List Fd} {wf N t : Nat}
theorem run_turn {pl mi ti ov : Nat} (ht : tab[t]? = some (turnFd mi ti)) (O : Os (run tab wf N) pl mi ti ov) : TurnOk (run tab wf (N + 1)) t := by
  intro a b c ha hb hc
  have sa := gd_sz ha
  have sb := gd_sz hb
  have sc := gd_sz hc
  have d1 := diff_sz hb ha
  have d2 := diff_sz hc ha
  have h1 := O.mi b.1 a.1 (sb.1.mono (by decide)) (sa.1.mono (by decide))
  have h2 := O.mi c.2 a.2 (sc.2.mono (by decide)) (sa.2.mono (by decide))
  have h3 := O.mi b.2 a.2 (sb.2.mono (by decide)) (sa.2.mono (by decide))
  have h4 := O.mi c.1 a.1 (sc.1.mono (by decide)) (sa.1.mono (by decide))
  have h5 := O.ti _ _ (d1.1.mono (by decide : 41 ≤ 2400)) (d2.2.mono (by decide))
  have h6 := O.ti _ _ (d1.2.mono (by decide : 41 ≤ 2400)) (d2.1.mono (by decide))
  have h7 := O.mi _ _ ((d1.1.mul d2.2).mono (by decide : 82 ≤ 2400)) ((d1.2.mul d2.1).mono (by decide))
  refine run_rt [.val (ptD a), .val (ptD b), .val (ptD c), .non] ht rfl rfl ?_
  show _ = some (Fl.rt (fr ((b.1 - a.1) * (c.2 - a.2) - (b.2 - a.2) * (c.1 - a.1))))
  simp [turnFd, h1, h2, h3, h4, h5, h6, h7]
theorem less_iff (a b : Rat) : decide (a.num * (b.den : Int) < b.num * (a.den : Int)) = decide (a < b) := by
  congr 1
  exact propext (Rat.lt_iff a b).symm
theorem run_less (ht : tab[t]? = some lessFd) : LessOk (run tab wf (N + 1)) t := by
  intro a b ha hb
  have m1 := mulOk_of ha.n hb.d' (by decide)
  have m2 := mulOk_of hb.n ha.d' (by decide)
  refine run_rt [.val (fr a), .val (fr b)] ht rfl rfl ?_
  have := less_iff a b
  simp [lessFd, bin_mul m1, bin_mul m2, this]
end
end MP
namespace K28
open PySem MP MG
abbrev R (N : Nat) := run tab 20000 N
theorem t0 : tab[0]? = some commonFd := rfl
theorem t1 : tab[1]? = some (fractionFd 0) := rfl
theorem t2 : tab[2]? = some (plusFd 1) := rfl
theorem t3 : tab[3]? = some (minusFd 1) := rfl
theorem t4 : tab[4]? = some (timesFd 1) := rfl
theorem t5 : tab[5]? = some (overFd 1) := rfl
theorem t6 : tab[6]? = some lessFd := rfl
theorem t7 : tab[7]? = some d_sign := rfl
theorem t8 : tab[8]? = some (turnFd 3 4) := rfl
theorem t9 : tab[9]? = some d_smaller := rfl
theorem t10 : tab[10]? = some d_put_in := rfl
theorem t11 : tab[11]? = some d_chain := rfl
theorem t12 : tab[12]? = some d_hull := rfl
theorem t20 : tab[20]? = some cellFd := rfl
theorem t21 : tab[21]? = some drawFd := rfl
theorem t22 : tab[22]? = some lawFractionFd := rfl
theorem t23 : tab[23]? = some (plusFd 22) := rfl
theorem t24 : tab[24]? = some (minusFd 22) := rfl
theorem t25 : tab[25]? = some (timesFd 22) := rfl
theorem t26 : tab[26]? = some (overFd 22) := rfl
theorem t27 : tab[27]? = some lessFd := rfl
theorem t29 : tab[29]? = some (turnFd 24 25) := rfl
theorem mk1 : Makes tab 20000 9000 2 1 := makes_fraction t1 t0 (by decide)
theorem mk22 : Makes tab 20000 4900 1 22 := makes_lawFraction t22
theorem osP (N : Nat) (h : 3 ≤ N) : Os (R N) 2 3 4 5 :=
  ⟨op_plus mk1 t2 (by decide) (by decide) N h, op_minus mk1 t3 (by decide) (by decide) N h, op_times mk1 t4 (by decide) (by decide) N h, op_over mk1 t5 (by decide) (by decide) N h⟩
theorem osL (N : Nat) (h : 2 ≤ N) : Os (R N) 23 24 25 26 :=
  ⟨op_plus mk22 t23 (by decide) (by decide) N h, op_minus mk22 t24 (by decide) (by decide) N h, op_times mk22 t25 (by decide) (by decide) N h, op_over mk22 t26 (by decide) (by decide) N h⟩
theorem up1 {Pr : Nat → Prop} {c : Nat} (h : ∀ N, c ≤ N → Pr (N + 1)) : ∀ N, c + 1 ≤ N → Pr N := fun N hN => by
  obtain ⟨k, rfl⟩ : ∃ k, N = k + 1 := ⟨N - 1, by omega⟩
  exact h k (by omega)
theorem turn8 (N : Nat) (h : 4 ≤ N) : TurnOk (R N) 8 := up1 (Pr := fun N => TurnOk (R N) 8) (c := 3) (fun N hN => run_turn t8 (osP N hN)) N h
theorem turn29 (N : Nat) (h : 3 ≤ N) : TurnOk (R N) 29 := up1 (Pr := fun N => TurnOk (R N) 29) (c := 2) (fun N hN => run_turn t29 (osL N hN)) N h
theorem less6 (N : Nat) (h : 1 ≤ N) : LessOk (R N) 6 := up1 (Pr := fun N => LessOk (R N) 6) (c := 0) (fun N hN => run_less t6) N h
theorem less27 (N : Nat) (h : 1 ≤ N) : LessOk (R N) 27 := up1 (Pr := fun N => LessOk (R N) 27) (c := 0) (fun N hN => run_less t27) N h
def sgn (q : Rat) : Int := if q < 0 then -1 else if 0 < q then 1 else 0
theorem num_lt (q : Rat) : (q.num < 0) = (q < 0) := by
  have := Rat.num_nonneg (q := q)
  exact propext ⟨fun h => by grind, fun h => by grind⟩
theorem num_gt (q : Rat) : (0 < q.num) = (0 < q) := by
  have := num_lt (-q)
  rw [Rat.neg_num] at this
  refine propext ⟨fun h => ?_, fun h => ?_⟩
  · have h' : -q.num < 0 := by omega
    rw [this] at h'; grind
  · have h' : -q < 0 := by grind
    rw [← this] at h'; omega
theorem sign7 (N : Nat) (h : 1 ≤ N) (q : Rat) : R N 7 [fr q] = some (.int (sgn q)) := by
  obtain ⟨N, rfl⟩ : ∃ k, N = k + 1 := ⟨N - 1, by omega⟩
  refine run_rt [.val (fr q)] t7 rfl rfl ?_
  have h1 := num_lt q
  have h2 := num_gt q
  unfold sgn
  by_cases c1 : q < 0
  · simp [d_sign, h1, c1]
  · by_cases c2 : 0 < q
    · simp [d_sign, h1, c1, h2, c2]
    · simp [d_sign, h1, c1, h2, c2]
theorem smaller9 (N : Nat) (h : 2 ≤ N) (a b : P) (ha : Gd a) (hb : Gd b) : R N 9 [ptD a, ptD b] = some (.bl (decide (lt2 a b))) := by
  obtain ⟨N, rfl⟩ : ∃ k, N = k + 1 := ⟨N - 1, by omega⟩
  have h1 := less6 N (by omega) a.1 b.1 ((gd_sz ha).1.mono (by decide)) ((gd_sz hb).1.mono (by decide))
  have h2 := less6 N (by omega) a.2 b.2 ((gd_sz ha).2.mono (by decide)) ((gd_sz hb).2.mono (by decide))
  have h3 := eq_fr a.1 b.1
  refine run_rt [.val (ptD a), .val (ptD b)] t9 rfl rfl ?_
  unfold lt2
  by_cases c1 : a.1 < b.1
  · simp [d_smaller, h1, c1]
  · by_cases c2 : a.1 = b.1
    · have c1' : ¬ b.1 < b.1 := by grind
      rw [c2] at h1 h3
      simp [d_smaller, h1, h2, h3, c2, c1']
    · simp [d_smaller, h1, h3, c1, c2]
/-! ### put_in, chain, hull -/
theorem cut_to {α : Type} (xs : List α) {k : Nat} (h : k ≤ xs.length) : cutD xs none (some (k : Int)) = xs.take k := by
  have e : HT.sIx xs.length xs.length (some (k : Int)) = k := by rw [HT.sIx_nat]; omega
  have e0 : HT.sIx xs.length 0 none = 0 := by simp [HT.sIx]
  unfold cutD
  rw [e, e0]; simp
theorem cut_from {α : Type} (xs : List α) {k : Nat} (h : k ≤ xs.length) : cutD xs (some (k : Int)) none = xs.drop k := by
  have e : HT.sIx xs.length 0 (some (k : Int)) = k := by rw [HT.sIx_nat]; omega
  have e0 : HT.sIx xs.length xs.length none = xs.length := by simp [HT.sIx]
  unfold cutD
  rw [e, e0]
  exact List.take_of_length_le (by rw [List.length_drop]; omega)
theorem cut_last {α : Type} (xs : List α) : cutD xs none (some (-1)) = xs.dropLast := by
  have e : HT.sIx xs.length xs.length (some (-1)) = xs.length - 1 := by simp [HT.sIx]; omega
  have e0 : HT.sIx xs.length 0 none = 0 := by simp [HT.sIx]
  unfold cutD
  rw [e, e0, List.dropLast_eq_take]; simp
def putTest : T := (.and (.cons (.cmp .lt (.slot 2) (.prim .len (.cons (.slot 1) .nil))) (.cons (.tru (.call 9 (.cons (.idx (.slot 1) (.slot 2)) (.cons (.slot 0) .nil)) [])) .nil)))
def putBody : Ss := (.cons (.set 2 (.bin .add (.slot 2) (.cint 1))) .nil)
theorem put_test (Φ : Nat → List D → Option D) (h9 : ∀ a b, Gd a → Gd b → Φ 9 [ptD a, ptD b] = some (.bl (decide (lt2 a b)))) {p : P} (hp : Gd p) (pre post : List P) (hr : ∀ q ∈ post, Gd q) :
    evT Φ putTest [.val (ptD p), .val (ptsD (pre ++ post)), .val (.int (pre.length : Int))] = some (match post with | [] => false | q :: _ => decide (lt2 q p)) := by
  cases post with
  | nil => simp [putTest]
  | cons q qs =>
    have hix : ixD (ptsD (pre ++ q :: qs)) (.int (pre.length : Int)) = some (ptD q) := ix_ptsD (by simp)
    have h := h9 q p (hr q (by simp)) hp
    have hl : (pre.length : Int) < ((pre ++ q :: qs).length : Int) := by simp; omega
    generalize ((pre ++ q :: qs).length : Int) = L at hl
    have e : (len_ptsD (pre ++ q :: qs)) = (len_ptsD (pre ++ q :: qs)) := rfl
    have hlen := len_ptsD (pre ++ q :: qs)
    have hl' : (pre.length : Int) < ((pre ++ q :: qs).length : Int) := by simp; omega
    generalize ptsD (pre ++ q :: qs) = Z at hix hlen ⊢
    generalize ((pre ++ q :: qs).length : Int) = L' at hlen hl'
    cases hd : decide (lt2 q p) <;> simp [putTest, hlen, hl', hix, h, hd, truD]
theorem put_loop (Φ : Nat → List D → Option D) (h9 : ∀ a b, Gd a → Gd b → Φ 9 [ptD a, ptD b] = some (.bl (decide (lt2 a b)))) {p : P} (hp : Gd p) : ∀ (post pre : List P) (n : Nat), (∀ q ∈ post, Gd q) → post.length + 1 ≤ n →
    ∃ a b, post = a ++ b ∧ ins p (pre ++ post) = ins p (pre ++ post) ∧ (∀ q ∈ a, lt2 q p) ∧ (∀ q qs, b = q :: qs → ¬ lt2 q p) ∧
    whileM (evT Φ putTest) (evSs Φ 20000 putBody) n [.val (ptD p), .val (ptsD (pre ++ post)), .val (.int (pre.length : Int))] = some (.nx [.val (ptD p), .val (ptsD (pre ++ post)), .val (.int ((pre.length + a.length : Nat) : Int))])
  | [], pre, n, _, hn => by
    obtain ⟨n, rfl⟩ : ∃ k, n = k + 1 := ⟨n - 1, by simp at hn; omega⟩
    refine ⟨[], [], rfl, rfl, fun q hq => absurd hq (by simp), (fun q qs e => by cases e), ?_⟩
    have := put_test Φ h9 hp pre [] (fun q hq => absurd hq (by simp))
    unfold whileM
    rw [this]; rfl
  | q :: qs, pre, n, hr, hn => by
    obtain ⟨n, rfl⟩ : ∃ k, n = k + 1 := ⟨n - 1, by simp at hn; omega⟩
    have ht := put_test Φ h9 hp pre (q :: qs) hr
    by_cases hlt : lt2 q p
    · obtain ⟨a, b, e1, _, e2, e3, e4⟩ := put_loop Φ h9 hp qs (pre ++ [q]) n (fun x hx => hr x (List.mem_cons_of_mem _ hx)) (by simp at hn; omega)
      refine ⟨q :: a, b, by rw [e1]; rfl, rfl, fun x hx => ?_, e3, ?_⟩
      · rcases List.mem_cons.mp hx with rfl | hx
        · exact hlt
        · exact e2 x hx
      · have es : evSs Φ 20000 putBody [.val (ptD p), .val (ptsD (pre ++ q :: qs)), .val (.int (pre.length : Int))] = some (.nx [.val (ptD p), .val (ptsD ((pre ++ [q]) ++ qs)), .val (.int ((pre ++ [q]).length : Int))]) := by
          rw [List.append_assoc]
          simp [putBody]
        rw [whileM, ht]
        simp only [decide_eq_true hlt]
        rw [es]
        show whileM (evT Φ putTest) (evSs Φ 20000 putBody) n [.val (ptD p), .val (ptsD ((pre ++ [q]) ++ qs)), .val (.int ((pre ++ [q]).length : Int))] = _
        rw [e4, List.append_assoc]
        have : (pre ++ [q]).length + a.length = pre.length + (q :: a).length := by simp; omega
        rw [this]; rfl
    · refine ⟨[], q :: qs, rfl, rfl, fun x hx => absurd hx (by simp), (fun x xs e => by cases e; exact hlt), ?_⟩
      rw [whileM, ht]
      simp only [decide_eq_false hlt]
      rfl
theorem ins_split {p : P} : ∀ {a b : List P}, (∀ q ∈ a, lt2 q p) → (∀ q qs, b = q :: qs → ¬ lt2 q p) → ins p (a ++ b) = if b.head? = some p then a ++ b else a ++ p :: b
  | [], [], _, _ => rfl
  | [], q :: qs, _, h => by
    have hn := h q qs rfl
    show ins p (q :: qs) = _
    unfold ins
    rw [if_neg hn]
    by_cases e : q = p
    · rw [if_pos e, if_pos (by rw [e]; rfl)]; rfl
    · rw [if_neg e, if_neg (by simpa using e)]; rfl
  | x :: xs, b, ha, hb => by
    have hx := ha x (by simp)
    have ih := ins_split (a := xs) (b := b) (fun q hq => ha q (List.mem_cons_of_mem _ hq)) hb
    show ins p (x :: (xs ++ b)) = _
    unfold ins
    rw [if_pos hx, ih]
    split <;> rfl
theorem put10 (N : Nat) (h : 3 ≤ N) (p : P) (row : List P) (hp : Gd p) (hr : ∀ q ∈ row, Gd q) (hl : row.length ≤ 64) : R N 10 [ptD p, ptsD row] = some (ptsD (ins p row)) := by
  obtain ⟨N, rfl⟩ : ∃ k, N = k + 1 := ⟨N - 1, by omega⟩
  obtain ⟨a, b, e, _, ha, hb, hw⟩ := put_loop (R N) (fun a b => smaller9 N (by omega) a b) hp row [] 20000 hr (by omega)
  rw [List.nil_append] at hw
  have hk : a.length ≤ row.length := by rw [e]; simp
  have c1 := cut_to (row.map ptD) (k := a.length) (by simpa using hk)
  have c2 := cut_from (row.map ptD) (k := a.length) (by simpa using hk)
  have l64 : (64 : Nat) < line := by decide
  refine run_rt [.val (ptD p), .val (ptsD row), .non] t10 rfl rfl ?_
  have hb1 : d_put_in.body = .cons (.set 2 (.cint 0)) (.cons (.whileS putTest putBody) (.cons (.ifS (.and (.cons (.cmp .lt (.slot 2) (.prim .len (.cons (.slot 1) .nil))) (.cons (.cmp .eq (.idx (.slot 1) (.slot 2)) (.slot 0)) .nil))) (.cons (.ret (.slot 1)) .nil) .nil) (.cons (.ret (.bin .add (.bin .add (.slc (.slot 1) .none (.some (.slot 2))) (.lst (.cons (.slot 0) .nil))) (.slc (.slot 1) (.some (.slot 2)) .none))) .nil))) := rfl
  rw [hb1, e, ins_split ha hb]
  rw [e] at c1 c2 hw hl
  have ea : (a ++ b).map ptD = a.map ptD ++ b.map ptD := List.map_append ..
  have t1 : ((a ++ b).map ptD).take a.length = a.map ptD := by rw [ea]; exact List.take_left' (by simp)
  have t2 : ((a ++ b).map ptD).drop a.length = b.map ptD := by rw [ea]; exact List.drop_left' (by simp)
  rw [t1] at c1
  rw [t2] at c2
  have hw' : whileM (evT (R N) putTest) (evSs (R N) 20000 putBody) 20000 [.val (ptD p), .val (ptsD (a ++ b)), .val (.int 0)] = some (.nx [.val (ptD p), .val (ptsD (a ++ b)), .val (.int (a.length : Int))]) := by simpa using hw
  by_cases hh : b.head? = some p
  · rw [if_pos hh]
    obtain ⟨bs, rfl⟩ : ∃ bs, b = p :: bs := by
      cases b with
      | nil => cases hh
      | cons q qs => simp at hh; exact ⟨qs, by rw [hh]⟩
    have hix : ixD (ptsD (a ++ p :: bs)) (.int (a.length : Int)) = some (ptD p) := ix_ptsD (by simp)
    have hlen := len_ptsD (a ++ p :: bs)
    have hlt : (a.length : Int) < ((a ++ p :: bs).length : Int) := by simp; omega
    have heq := eq_ptD p p
    have hpz := pure_ptsD (a ++ p :: bs)
    generalize ptsD (a ++ p :: bs) = Z at *
    generalize ((a ++ p :: bs).length : Int) = LL at *
    simp [evS_while, hw', hlen, hlt, hix, heq, hpz]
  · rw [if_neg hh]
    have htest : evT (R N) (.and (.cons (.cmp .lt (.slot 2) (.prim .len (.cons (.slot 1) .nil))) (.cons (.cmp .eq (.idx (.slot 1) (.slot 2)) (.slot 0)) .nil))) [.val (ptD p), .val (ptsD (a ++ b)), .val (.int (a.length : Int))] = some false := by
      cases b with
      | nil => simp
      | cons q qs =>
        have hq : q ≠ p := fun e => hh (by rw [e]; rfl)
        have hix : ixD (ptsD (a ++ q :: qs)) (.int (a.length : Int)) = some (ptD q) := ix_ptsD (by simp)
        have hlen := len_ptsD (a ++ q :: qs)
        have hlt : (a.length : Int) < ((a ++ q :: qs).length : Int) := by simp; omega
        have heq := eq_ptD q p
        rw [decide_eq_false hq] at heq
        generalize ptsD (a ++ q :: qs) = Z at *
        generalize ((a ++ q :: qs).length : Int) = LL at *
        simp [hlen, hlt, hix, heq]
    have f1 : ptsD (a ++ b) = .lst ((a ++ b).map ptD) := rfl
    have f2 : ptsD (a ++ p :: b) = .lst (a.map ptD ++ ptD p :: b.map ptD) := by unfold ptsD; rw [List.map_append]; rfl
    have h1 : (1 : Nat) ≤ line := by decide
    have hab : a.length + b.length ≤ 64 := by simpa using hl
    have hcat : catD (.lst (a.map ptD)) (.lst [ptD p]) = some (a.map ptD ++ [ptD p]) := by
      show (if decide ((a.map ptD).length + 1 ≤ line) = true then _ else _) = _
      rw [if_pos (decide_eq_true (by rw [List.length_map]; omega))]
    have hcat2 : catD (.lst (a.map ptD ++ [ptD p])) (.lst (b.map ptD)) = some (a.map ptD ++ ptD p :: b.map ptD) := by
      show (if decide ((a.map ptD ++ [ptD p]).length + (b.map ptD).length ≤ line) = true then _ else _) = _
      rw [if_pos (decide_eq_true (by simp; omega))]
      simp
    rw [f2]
    have hz : evE (R N) (.slot 1) [.val (ptD p), .val (ptsD (a ++ b)), .val (.int (a.length : Int))] = some (.lst ((a ++ b).map ptD)) := rfl
    have e1 : evE (R N) (.slc (.slot 1) .none (.some (.slot 2))) [.val (ptD p), .val (ptsD (a ++ b)), .val (.int (a.length : Int))] = some (.lst (a.map ptD)) := by
      rw [ev_slc, hz]
      show some (D.lst (cutD ((a ++ b).map ptD) none (some (a.length : Int)))) = _
      rw [c1]
    have e2 : evE (R N) (.slc (.slot 1) (.some (.slot 2)) .none) [.val (ptD p), .val (ptsD (a ++ b)), .val (.int (a.length : Int))] = some (.lst (b.map ptD)) := by
      rw [ev_slc, hz]
      show some (D.lst (cutD ((a ++ b).map ptD) (some (a.length : Int)) none)) = _
      rw [c2]
    generalize a.map ptD = A at *
    generalize b.map ptD = B at *
    simp [evS_while, hw', htest, -evT_and, -ev_slc, e1, e2, h1, hcat, hcat2]
end K28

/-! runs: chain, hull. -/
namespace K28
open PySem L2 MP MG
theorem atI_last {α : Type} (xs : List α) (x : α) : atI (xs ++ [x]) (-1) = some x := by
  unfold atI ixN
  rw [if_neg (by omega), if_pos (by simp; omega)]
  have : ((-1 : Int) + (((xs ++ [x]).length : Nat) : Int)).toNat = xs.length := by simp; omega
  rw [Option.bind_some, this]
  simp
theorem atI_last2 {α : Type} (xs : List α) (y x : α) : atI (xs ++ [y, x]) (-2) = some y := by
  unfold atI ixN
  rw [if_neg (by omega), if_pos (by simp; omega)]
  have : ((-2 : Int) + (((xs ++ [y, x]).length : Nat) : Int)).toNat = xs.length := by simp; omega
  rw [Option.bind_some, this]
  simp
theorem ixo_last (xs : List D) (x : D) : ixD (.own (xs ++ [x])) (.int (-1)) = some x := atI_last xs x
theorem ixo_last2 (xs : List D) (y x : D) : ixD (.own (xs ++ [y, x])) (.int (-2)) = some y := atI_last2 xs y x
theorem sgn_le (q : Rat) : decide (sgn q ≤ 0) = decide (q ≤ 0) := by
  congr 1
  unfold sgn
  refine propext ?_
  by_cases c1 : q < 0
  · rw [if_pos c1]; constructor
    · intro _; grind
    · intro _; omega
  · rw [if_neg c1]
    by_cases c2 : 0 < q
    · rw [if_pos c2]; constructor
      · intro h; omega
      · intro h; grind
    · rw [if_neg c2]; constructor
      · intro _; grind
      · intro _; omega
def chTest : T := (.and (.cons (.cmp .gt (.prim .len (.cons (.slot 1) .nil)) (.cint 1)) (.cons (.cmp .le (.call 7 (.cons (.call 8 (.cons (.idx (.slot 1) (.neg (.cint 2))) (.cons (.idx (.slot 1) (.neg (.cint 1))) (.cons (.slot 2) .nil))) []) .nil) []) (.cint 0)) .nil)))
def chBody : Ss := (.cons (.popE 1) .nil)
def chFor : Ss := (.cons (.whileS chTest chBody) (.cons (.app 1 (.slot 2)) .nil))
theorem ch_while (N : Nat) (h : 4 ≤ N) (K : SV) {p : P} (hp : Gd p) : ∀ (st : List P) (n : Nat), (∀ q ∈ st, Gd q) → st.length + 1 ≤ n →
    whileM (evT (R N) chTest) (evSs (R N) 20000 chBody) n [K, .mls (st.reverse.map ptD), .val (ptD p)] = some (.nx [K, .mls ((pop p st).reverse.map ptD), .val (ptD p)])
  | [], n, _, hn => by
    obtain ⟨n, rfl⟩ : ∃ k, n = k + 1 := ⟨n - 1, by simp at hn; omega⟩
    have : evT (R N) chTest [K, .mls [], .val (ptD p)] = some false := by simp [chTest]
    show whileM _ _ (n + 1) [K, .mls [], .val (ptD p)] = _
    unfold whileM
    rw [this]; rfl
  | [a], n, _, hn => by
    obtain ⟨n, rfl⟩ : ∃ k, n = k + 1 := ⟨n - 1, by simp at hn; omega⟩
    have : evT (R N) chTest [K, .mls [ptD a], .val (ptD p)] = some false := by simp [chTest]
    show whileM _ _ (n + 1) [K, .mls [ptD a], .val (ptD p)] = _
    unfold whileM
    rw [this]; rfl
  | b :: a :: r, n, hg, hn => by
    obtain ⟨n, rfl⟩ : ∃ k, n = k + 1 := ⟨n - 1, by simp at hn; omega⟩
    have ea : (b :: a :: r).reverse.map ptD = r.reverse.map ptD ++ [ptD a, ptD b] := by simp
    have eb : (b :: a :: r).reverse.map ptD = (a :: r).reverse.map ptD ++ [ptD b] := by simp
    have i1 := ixo_last2 (r.reverse.map ptD) (ptD a) (ptD b)
    rw [← ea] at i1
    have i2 := ixo_last ((a :: r).reverse.map ptD) (ptD b)
    rw [← eb] at i2
    have ht := turn8 N h a b p (hg a (by simp)) (hg b (by simp)) hp
    have hs := sign7 N (by omega) (turn a b p)
    have hle := sgn_le (turn a b p)
    have hlen : (1 : Int) < (((b :: a :: r).reverse.map ptD).length : Int) := by simp; omega
    have test : evT (R N) chTest [K, .mls ((b :: a :: r).reverse.map ptD), .val (ptD p)] = some (decide (turn a b p ≤ 0)) := by
      generalize (b :: a :: r).reverse.map ptD = Z at *
      generalize turn a b p = q at *
      cases hd : decide (q ≤ 0) <;> rw [hd] at hle <;> simp [chTest, hlen, i1, i2, ht, hs, hle]
    have body : evSs (R N) 20000 chBody [K, .mls ((b :: a :: r).reverse.map ptD), .val (ptD p)] = some (.nx [K, .mls ((a :: r).reverse.map ptD), .val (ptD p)]) := by
      rw [eb]
      simp [chBody]
    unfold whileM pop
    rw [test]
    by_cases hc : turn a b p ≤ 0
    · rw [if_pos hc]
      simp only [decide_eq_true hc]
      rw [body]
      exact ch_while N h K hp (a :: r) n (fun q hq => hg q (List.mem_cons_of_mem _ hq)) (by simp at hn ⊢; omega)
    · rw [if_neg hc]
      simp only [decide_eq_false hc]
theorem pop_sub (p : P) : ∀ st : List P, ∀ q ∈ pop p st, q ∈ st
  | [], q, h => h
  | [a], q, h => h
  | b :: a :: r, q, h => by
    unfold pop at h
    split at h
    · exact List.mem_cons_of_mem _ (pop_sub p (a :: r) q h)
    · exact h
theorem pop_len (p : P) : ∀ st : List P, (pop p st).length ≤ st.length
  | [] => Nat.le_refl _
  | [a] => Nat.le_refl _
  | b :: a :: r => by
    unfold pop
    split
    · exact Nat.le_trans (pop_len p (a :: r)) (by simp)
    · exact Nat.le_refl _
theorem ch_for (N : Nat) (h : 4 ≤ N) (K : SV) : ∀ (row st : List P) (x : SV), (∀ q ∈ row, Gd q) → (∀ q ∈ st, Gd q) → row.length + st.length ≤ 64 →
    ∃ x', forM (stepF (R N) 20000 [2] chFor) (row.map ptD) [K, .mls (st.reverse.map ptD), x] = some (.nx [K, .mls ((row.foldl (fun st p => p :: pop p st) st).reverse.map ptD), x'])
  | [], st, x, _, _, _ => ⟨x, rfl⟩
  | p :: row, st, x, hr, hs, hl => by
    have hp := hr p (by simp)
    have hw := ch_while N h K hp st 20000 hs (by simp at hl; omega)
    have l64 : (64 : Nat) < line := by decide
    have hpl := pop_len p st
    have hlen : ((pop p st).reverse.map ptD).length < line := by simp at *; omega
    have hst : stepF (R N) 20000 [2] chFor (ptD p) [K, .mls (st.reverse.map ptD), x] = some (.nx [K, .mls ((p :: pop p st).reverse.map ptD), .val (ptD p)]) := by
      have e : (p :: pop p st).reverse.map ptD = (pop p st).reverse.map ptD ++ [ptD p] := by simp
      rw [e]
      generalize st.reverse.map ptD = A at *
      generalize (pop p st).reverse.map ptD = B at *
      simp [stepF, chFor, evS_while, hw, hlen]
    obtain ⟨x', ih⟩ := ch_for N h K row (p :: pop p st) (.val (ptD p)) (fun q hq => hr q (List.mem_cons_of_mem _ hq)) (fun q hq => by
      rcases List.mem_cons.mp hq with rfl | hq
      · exact hp
      · exact hs q (pop_sub p st q hq)) (by simp at *; omega)
    refine ⟨x', ?_⟩
    rw [List.map_cons, forM_cons, hst]
    exact ih
theorem chain11 (N : Nat) (h : 5 ≤ N) (row : List P) (hr : ∀ q ∈ row, Gd q) (hl : row.length ≤ 64) : R N 11 [ptsD row] = some (ptsD (chain row)) := by
  obtain ⟨N, rfl⟩ : ∃ k, N = k + 1 := ⟨N - 1, by omega⟩
  obtain ⟨x', hf⟩ := ch_for N (by omega) (.val (ptsD row)) row [] .non hr (fun q hq => absurd hq (by simp)) (by simpa using hl)
  refine run_rt [.val (ptsD row), .non, .non] t11 rfl rfl ?_
  have hb : d_chain.body = .cons (.setM 1 (.lst .nil)) (.cons (.forS [2] (.seq (.slot 0)) chFor) (.cons (.frz 1) (.cons (.ret (.slot 1)) .nil))) := rfl
  rw [hb]
  have h0 : (0 : Nat) ≤ line := Nat.zero_le _
  have e : ptsD (chain row) = .lst ((row.foldl (fun st p => p :: pop p st) []).reverse.map ptD) := rfl
  rw [e]
  rw [List.reverse_nil, List.map_nil] at hf
  generalize (row.foldl (fun st p => p :: pop p st) []).reverse.map ptD = B at *
  simp [MP.fresh, h0, evS_forF, hf]
theorem ins_len (p : P) : ∀ row : List P, (ins p row).length ≤ row.length + 1
  | [] => by simp [ins]
  | q :: qs => by
    unfold ins
    split
    · have := ins_len p qs; simp; omega
    · split <;> simp
theorem hull12 (N : Nat) (h : 6 ≤ N) (pts : List P) (hr : ∀ q ∈ pts, Gd q) (hl : pts.length ≤ 64) : R N 12 [ptsD pts] = some (ptsD (hull pts)) := by
  obtain ⟨N, rfl⟩ : ∃ k, N = k + 1 := ⟨N - 1, by omega⟩
  have loop : ∀ (ps row : List P) (x : SV), (∀ q ∈ ps, Gd q) → (∀ q ∈ row, Gd q) → ps.length + row.length ≤ 64 → ∃ x', forM (stepF (R N) 20000 [2] (.cons (.set 1 (.call 10 (.cons (.slot 2) (.cons (.slot 1) .nil)) [])) .nil)) (ps.map ptD) [.val (ptsD pts), .val (ptsD row), x, .non] =
      some (.nx [.val (ptsD pts), .val (ptsD (ps.foldl (fun row p => ins p row) row)), x', .non]) := by
    intro ps
    induction ps with
    | nil => intro row x _ _ _; exact ⟨x, rfl⟩
    | cons p ps ih =>
      intro row x h1 h2 h3
      have hp := put10 N (by omega) p row (h1 p (by simp)) h2 (by simp at h3; omega)
      have hst : stepF (R N) 20000 [2] (.cons (.set 1 (.call 10 (.cons (.slot 2) (.cons (.slot 1) .nil)) [])) .nil) (ptD p) [.val (ptsD pts), .val (ptsD row), x, .non] = some (.nx [.val (ptsD pts), .val (ptsD (ins p row)), .val (ptD p), .non]) := by
        simp [stepF, hp]
      obtain ⟨x', hx⟩ := ih (ins p row) (.val (ptD p)) (fun q hq => h1 q (List.mem_cons_of_mem _ hq)) (fun q hq => by
        rcases mem_ins.mp hq with rfl | hq
        · exact h1 _ (by simp)
        · exact h2 q hq) (by have := ins_len p row; simp at h3; omega)
      exact ⟨x', by rw [List.map_cons, forM_cons, hst]; exact hx⟩
  obtain ⟨x', hf⟩ := loop pts [] .non hr (fun q hq => absurd hq (by simp)) (by simpa using hl)
  have hD : ∀ q ∈ dedup pts, Gd q := fun q hq => hr q (((dedup_ok pts).2 q).mp hq)
  have dl : (dedup pts).length ≤ 64 := by
    have : ∀ (ps row : List P), (ps.foldl (fun row p => ins p row) row).length ≤ ps.length + row.length := by
      intro ps
      induction ps with
      | nil => intro row; simp
      | cons p ps ih =>
        intro row
        have := ih (ins p row)
        have := ins_len p row
        simp at *; omega
    have := this pts []
    have e : dedup pts = pts.foldl (fun row p => ins p row) [] := rfl
    rw [← e] at this
    simp at this
    omega
  have c1 := chain11 N (by omega) (dedup pts) hD dl
  have c2 := chain11 N (by omega) (dedup pts).reverse (fun q hq => hD q (List.mem_reverse.mp hq)) (by simpa using dl)
  have ed : pts.foldl (fun row p => ins p row) [] = dedup pts := rfl
  rw [ed] at hf
  refine run_rt [.val (ptsD pts), .non, .non, .non] t12 rfl rfl ?_
  -- lengths of chains
  have clen : ∀ row : List P, (chain row).length ≤ row.length := by
    intro row
    have : ∀ (row st : List P), (row.foldl (fun st p => p :: pop p st) st).length ≤ row.length + st.length := by
      intro row
      induction row with
      | nil => intro st; simp
      | cons p row ih =>
        intro st
        have := ih (p :: pop p st)
        have := pop_len p st
        simp at *; omega
    have := this row []
    unfold chain chainR
    simpa using this
  have l64 : (128 : Nat) ≤ line := by decide
  have k1 := clen (dedup pts)
  have k2 := clen (dedup pts).reverse
  rw [List.length_reverse] at k2
  have rv : (D.lst ((dedup pts).map ptD).reverse) = ptsD (dedup pts).reverse := by unfold ptsD; rw [List.map_reverse]
  have s1 : ptsD (chain (dedup pts)) = .lst ((chain (dedup pts)).map ptD) := rfl
  have s2 : ptsD (chain (dedup pts).reverse) = .lst ((chain (dedup pts).reverse).map ptD) := rfl
  have cutm : ∀ X : List P, cutD (X.map ptD) none (some (-1)) = X.dropLast.map ptD := fun X => by rw [cut_last]; simp [List.dropLast_eq_take, List.map_take]
  have hcat : catD (.lst ((chain (dedup pts)).dropLast.map ptD)) (.lst ((chain (dedup pts).reverse).dropLast.map ptD)) = some (((chain (dedup pts)).dropLast ++ (chain (dedup pts).reverse).dropLast).map ptD) := by
    show (if decide (((chain (dedup pts)).dropLast.map ptD).length + ((chain (dedup pts).reverse).dropLast.map ptD).length ≤ line) = true then _ else _) = _
    rw [if_pos (decide_eq_true (by simp; omega)), List.map_append]
  have m1 := cutm (chain (dedup pts))
  have m2 := cutm (chain (dedup pts).reverse)
  unfold hull flt
  have tail : ∀ x', evSs (R N) 20000 (.cons (.set 3 (.bin .add (.slc (.call 11 (.cons (.slot 1) .nil) []) .none (.some (.neg (.cint 1)))) (.slc (.call 11 (.cons (.rev (.slot 1)) .nil) []) .none (.some (.neg (.cint 1)))))) (.cons (.ret (.ite (.cmp .gt (.prim .len (.cons (.slot 3) .nil)) (.cint 2)) (.slot 3) (.lst .nil))) .nil)) [.val (ptsD pts), .val (ptsD (dedup pts)), x', .non] =
      some (.rt (ptsD (if 2 < ((chain (dedup pts)).dropLast ++ (chain (dedup pts).reverse).dropLast).length then (chain (dedup pts)).dropLast ++ (chain (dedup pts).reverse).dropLast else []))) := by
    intro x'
    have e1 : evE (R N) (.slc (.call 11 (.cons (.slot 1) .nil) []) .none (.some (.neg (.cint 1)))) [.val (ptsD pts), .val (ptsD (dedup pts)), x', .non] = some (.lst ((chain (dedup pts)).dropLast.map ptD)) := by
      have : evE (R N) (.call 11 (.cons (.slot 1) .nil) []) [.val (ptsD pts), .val (ptsD (dedup pts)), x', .non] = some (.lst ((chain (dedup pts)).map ptD)) := by
        rw [← s1, ← c1]; simp
      rw [ev_slc, this]
      show some (D.lst (cutD ((chain (dedup pts)).map ptD) none (some (-1)))) = _
      rw [m1]
    have e2 : evE (R N) (.slc (.call 11 (.cons (.rev (.slot 1)) .nil) []) .none (.some (.neg (.cint 1)))) [.val (ptsD pts), .val (ptsD (dedup pts)), x', .non] = some (.lst ((chain (dedup pts).reverse).dropLast.map ptD)) := by
      have : evE (R N) (.call 11 (.cons (.rev (.slot 1)) .nil) []) [.val (ptsD pts), .val (ptsD (dedup pts)), x', .non] = some (.lst ((chain (dedup pts).reverse).map ptD)) := by
        have hr : evE (R N) (.rev (.slot 1)) [.val (ptsD pts), .val (ptsD (dedup pts)), x', .non] = some (ptsD (dedup pts).reverse) := by rw [← rv]; rfl
        rw [← s2, ← c2, ev_call, evEs_cons, hr]; simp
      rw [ev_slc, this]
      show some (D.lst (cutD ((chain (dedup pts).reverse).map ptD) none (some (-1)))) = _
      rw [m2]
    have f0 : D.lst (((chain (dedup pts)).dropLast ++ (chain (dedup pts).reverse).dropLast).map ptD) = ptsD ((chain (dedup pts)).dropLast ++ (chain (dedup pts).reverse).dropLast) := rfl
    have e3 : evE (R N) (.bin .add (.slc (.call 11 (.cons (.slot 1) .nil) []) .none (.some (.neg (.cint 1)))) (.slc (.call 11 (.cons (.rev (.slot 1)) .nil) []) .none (.some (.neg (.cint 1))))) [.val (ptsD pts), .val (ptsD (dedup pts)), x', .non] = some (ptsD ((chain (dedup pts)).dropLast ++ (chain (dedup pts).reverse).dropLast)) := by
      rw [ev_bin, e1, e2, ← f0]
      show (match BOp.add, catD (.lst ((chain (dedup pts)).dropLast.map ptD)) (.lst ((chain (dedup pts).reverse).dropLast.map ptD)) with | .add, some ds => some (D.lst ds) | op, _ => _) = _
      rw [hcat]
    have hlen := len_ptsD ((chain (dedup pts)).dropLast ++ (chain (dedup pts).reverse).dropLast)
    have h0 : (0 : Nat) ≤ line := Nat.zero_le _
    have en : D.lst [] = ptsD [] := rfl
    generalize (chain (dedup pts)).dropLast ++ (chain (dedup pts).reverse).dropLast = F at *
    by_cases hc : 2 < F.length
    · have hc' : (2 : Int) < (F.length : Int) := by omega
      rw [if_pos hc]
      have hp := pure_ptsD F
      generalize (F.length : Int) = LL at *
      generalize ptsD F = FF at *
      simp [-ev_bin, e3, hlen, hc', hp]
    · have hc' : ¬ (2 : Int) < (F.length : Int) := by omega
      rw [if_neg hc]
      have hp := pure_ptsD F
      generalize (F.length : Int) = LL at *
      generalize ptsD F = FF at *
      simp [-ev_bin, e3, hlen, hc', hp, h0, en]
  have hb : d_hull.body = .cons (.set 1 (.lst .nil)) (.cons (.forS [2] (.seq (.slot 0)) (.cons (.set 1 (.call 10 (.cons (.slot 2) (.cons (.slot 1) .nil)) [])) .nil)) (.cons (.set 3 (.bin .add (.slc (.call 11 (.cons (.slot 1) .nil) []) .none (.some (.neg (.cint 1)))) (.slc (.call 11 (.cons (.rev (.slot 1)) .nil) []) .none (.some (.neg (.cint 1)))))) (.cons (.ret (.ite (.cmp .gt (.prim .len (.cons (.slot 3) .nil)) (.cint 2)) (.slot 3) (.lst .nil))) .nil))) := rfl
  rw [hb, ← tail x']
  generalize Ss.cons (.set 3 (.bin .add (.slc (.call 11 (.cons (.slot 1) .nil) []) .none (.some (.neg (.cint 1)))) (.slc (.call 11 (.cons (.rev (.slot 1)) .nil) []) .none (.some (.neg (.cint 1)))))) (.cons (.ret (.ite (.cmp .gt (.prim .len (.cons (.slot 3) .nil)) (.cint 2)) (.slot 3) (.lst .nil))) .nil) = TL
  have en : D.lst [] = ptsD [] := rfl
  have h0 : (0 : Nat) ≤ line := Nat.zero_le _
  simp [h0, en, evS_forF, hf]
end K28

/-! runs: sums, cuts, sides. -/
namespace MP
open MG
def sizeFd (pl tu : Nat) : Fd := ⟨1, 3, (.cons (.set 1 (.tup (.cons (.cint 0) (.cons (.cint 1) .nil)))) (.cons (.forS [2] (.rng2 (.cint 1) (.bin .sub (.prim .len (.cons (.slot 0) .nil)) (.cint 1))) (.cons (.set 1 (.call pl (.cons (.slot 1) (.cons (.call tu (.cons (.idx (.slot 0) (.cint 0)) (.cons (.idx (.slot 0) (.slot 2)) (.cons (.idx (.slot 0) (.bin .add (.slot 2) (.cint 1))) .nil))) []) .nil)) [])) .nil)) (.cons (.ret (.slot 1)) .nil)))⟩
def sizeBody (pl tu : Nat) : Ss := (.cons (.set 1 (.call pl (.cons (.slot 1) (.cons (.call tu (.cons (.idx (.slot 0) (.cint 0)) (.cons (.idx (.slot 0) (.slot 2)) (.cons (.idx (.slot 0) (.bin .add (.slot 2) (.cint 1))) .nil))) []) .nil)) [])) .nil)
def SizeOk (Φ : Nat → List D → Option D) (t : Nat) : Prop := ∀ X : List P, (∀ v ∈ X, Gd v) → X.length ≤ 26 → Φ t [ptsD X] = some (fr (cyc cr X))
theorem fanW_sz {p : P} (hp : Gd p) : ∀ (bs : List P) (a : P) (acc : Rat) (m : Nat), Gd a → (∀ v ∈ bs, Gd v) → Sz (88 * m + 1) acc → Sz (88 * (m + bs.length) + 1) (acc + fanW p a bs)
  | [], a, acc, m, _, _, h => by
    have : acc + fanW p a [] = acc := by show acc + 0 = acc; grind
    rw [this]; exact h
  | b :: bs, a, acc, m, ha, hb, h => by
    have hbb := hb b (by simp)
    have ih := fanW_sz hp bs b (acc + turn p a b) (m + 1) hbb (fun v hv => hb v (List.mem_cons_of_mem _ hv)) ((h.add (turn_sz hp ha hbb)).mono (by omega))
    have e : acc + fanW p a (b :: bs) = acc + turn p a b + fanW p b bs := by show acc + (turn p a b + fanW p b bs) = _; grind
    rw [e]
    exact ih.mono (by simp; omega)
theorem cyc_sz {X : List P} (h : ∀ v ∈ X, Gd v) : Sz (88 * X.length + 1) (cyc cr X) := by
  rw [← fan_cyc]
  have z : ∀ k, Sz (88 * k + 1) (0 : Rat) := fun k => sz_zero (by omega)
  match X, h with
  | [], _ => exact z 0
  | [p], _ => exact z 1
  | p :: a :: bs, h =>
    have := fanW_sz (h p (by simp)) bs a 0 0 (h a (by simp)) (fun v hv => h v (by simp [hv])) (z 0)
    have e : (0 : Rat) + fanW p a bs = fan (p :: a :: bs) := by show 0 + fanW p a bs = fanW p a bs; grind
    rw [e] at this
    exact this.mono (by simp; omega)
section
variable {Φ : Nat → List D → Option D} {wf : Nat}
theorem size_loop {pl tu : Nat} (hpl : ∀ a b : Rat, Sz 2400 a → Sz 2400 b → Φ pl [fr a, fr b] = some (fr (a + b))) (ht : TurnOk Φ tu) {X : List P} {p : P} (h0 : X[0]? = some p) (hX : ∀ v ∈ X, Gd v) : ∀ (bs : List P) (a : P) (k m : Nat) (acc : Rat) (x : SV), X.drop k = a :: bs →
    Sz (88 * m + 1) acc → m + bs.length ≤ 26 → ∃ x', forM (stepF Φ wf [2] (sizeBody pl tu)) ((List.range' k bs.length).map fun (i : Nat) => D.int (i : Int)) [.val (ptsD X), .val (fr acc), x] = some (.nx [.val (ptsD X), .val (fr (acc + fanW p a bs)), x'])
  | [], a, k, m, acc, x, _, _, _ => ⟨x, by
      have : acc + fanW p a [] = acc := by show acc + 0 = acc; grind
      rw [this]; rfl⟩
  | b :: bs, a, k, m, acc, x, hd, hs, hm => by
    have e1 : X[k]? = some a := by rw [← List.head?_drop, hd]; rfl
    have e2 : X[k + 1]? = some b := by rw [← List.head?_drop, drop_next hd]; rfl
    have hp := hX p (List.mem_of_getElem? h0)
    have ha := hX a (List.mem_of_getElem? e1)
    have hb := hX b (List.mem_of_getElem? e2)
    have tt := ht p a b hp ha hb
    have ts := turn_sz hp ha hb
    have pp := hpl acc (turn p a b) (hs.mono (by simp at hm; omega)) (ts.mono (by decide))
    have i0 : ixD (ptsD X) (.int 0) = some (ptD p) := ix_ptsD h0
    have i1 := ix_ptsD e1
    have i2 : ixD (ptsD X) (.int ((k : Int) + 1)) = some (ptD b) := ix_ptsD e2
    have hst : stepF Φ wf [2] (sizeBody pl tu) (.int (k : Int)) [.val (ptsD X), .val (fr acc), x] = some (.nx [.val (ptsD X), .val (fr (acc + turn p a b)), .val (.int (k : Int))]) := by
      generalize ptsD X = Z at *
      generalize turn p a b = q at *
      simp [stepF, sizeBody, i0, i1, i2, tt, pp]
    obtain ⟨x', ih⟩ := size_loop hpl ht h0 hX bs b (k + 1) (m + 1) (acc + turn p a b) (.val (.int (k : Int))) (drop_next hd) ((hs.add ts).mono (by omega)) (by simp at hm; omega)
    refine ⟨x', ?_⟩
    have hl : (List.range' k (b :: bs).length).map (fun (i : Nat) => D.int (i : Int)) = .int (k : Int) :: (List.range' (k + 1) bs.length).map fun (i : Nat) => D.int (i : Int) := rfl
    have e : acc + fanW p a (b :: bs) = acc + turn p a b + fanW p b bs := by show acc + (turn p a b + fanW p b bs) = _; grind
    rw [hl, forM_cons, hst, e]
    exact ih
end
theorem run_size {tab : List Fd} {wf N t pl tu : Nat} (ht : tab[t]? = some (sizeFd pl tu)) (hpl : ∀ a b : Rat, Sz 2400 a → Sz 2400 b → run tab wf N pl [fr a, fr b] = some (fr (a + b))) (htu : TurnOk (run tab wf N) tu) : SizeOk (run tab wf (N + 1)) t := by
  intro X hX hl
  have hok : okRng ((X.length : Int) - 1) = true := by unfold okRng; simp only [Bool.and_eq_true, decide_eq_true_eq]; omega
  have h1 : okRng 1 = true := by decide
  have h2 : (2 : Nat) ≤ line := by decide
  have z : fr 0 = D.tup [.int 0, .int 1] := rfl
  rw [← fan_cyc]
  refine run_rt [.val (ptsD X), .non, .non] ht rfl rfl ?_
  have hb : (sizeFd pl tu).body = .cons (.set 1 (.tup (.cons (.cint 0) (.cons (.cint 1) .nil)))) (.cons (.forS [2] (.rng2 (.cint 1) (.bin .sub (.prim .len (.cons (.slot 0) .nil)) (.cint 1))) (sizeBody pl tu)) (.cons (.ret (.slot 1)) .nil)) := rfl
  rw [hb]
  have er : rng 1 ((X.length : Int) - 1) = (List.range' 1 (X.length - 2)).map fun (i : Nat) => D.int (i : Int) := by
    unfold rng
    have : ((X.length : Int) - 1 - 1).toNat = X.length - 2 := by omega
    rw [this, List.range'_eq_map_range, List.map_map]
    refine List.map_congr_left fun k _ => ?_
    have e1 : ((1 + k : Nat) : Int) = 1 + (k : Int) := by omega
    simp [e1]
  have hloop : ∃ x', forM (stepF (run tab wf N) wf [2] (sizeBody pl tu)) ((List.range' 1 (X.length - 2)).map fun (i : Nat) => D.int (i : Int)) [.val (ptsD X), .val (fr 0), .non] = some (.nx [.val (ptsD X), .val (fr (fan X)), x']) := by
    clear er hok
    match X, hX, hl with
    | [], _, _ => exact ⟨.non, id rfl⟩
    | [p], _, _ => exact ⟨.non, id rfl⟩
    | p :: a :: bs, hX, hl =>
      obtain ⟨x', h⟩ := size_loop (wf := wf) hpl htu (X := p :: a :: bs) (p := p) rfl hX bs a 1 0 0 .non rfl (sz_zero (by decide)) (by simp only [List.length_cons] at hl; omega)
      refine ⟨x', ?_⟩
      have e : (0 : Rat) + fanW p a bs = fan (p :: a :: bs) := by show 0 + fanW p a bs = fanW p a bs; grind
      rw [e] at h
      exact h
  obtain ⟨x', hx⟩ := hloop
  rw [z] at hx
  have hlen := len_ptsD X
  generalize fan X = F at *
  generalize ptsD X = Z at *
  generalize (X.length : Int) = LL at *
  simp [h2, evS_forF, hlen, hok, h1, er, hx]
end MP
namespace K28
open PySem MP MG
theorem t13 : tab[13]? = some (sizeFd 2 8) := rfl
theorem t14 : tab[14]? = some d_crossing := rfl
theorem t15 : tab[15]? = some d_left_of := rfl
theorem t16 : tab[16]? = some d_sides_of := rfl
theorem t34 : tab[34]? = some (sizeFd 23 29) := rfl
theorem size13 (N : Nat) (h : 5 ≤ N) : SizeOk (R N) 13 := up1 (Pr := fun N => SizeOk (R N) 13) (c := 4) (fun N hN => run_size t13 (osP N (by omega)).pl (turn8 N hN)) N h
theorem size34 (N : Nat) (h : 4 ≤ N) : SizeOk (R N) 34 := up1 (Pr := fun N => SizeOk (R N) 34) (c := 3) (fun N hN => run_size t34 (osL N (by omega)).pl (turn29 N hN)) N h
/-! ### the meeting -/
theorem two_list (f : Nat → D) : (List.range 2).map f = [f 0, f 1] := rfl
theorem cross14 (N : Nat) (h : 4 ≤ N) (a b : P) (x y : Rat) (ha : Gd a) (hb : Gd b) (hx : Sz 87 x) (hy : Sz 87 y) (hne : x ≠ y) : R N 14 [ptD a, ptD b, fr x, fr y] = some (ptD (meet a b x y)) := by
  obtain ⟨N, rfl⟩ : ∃ k, N = k + 1 := ⟨N - 1, by omega⟩
  have O := osP N (by omega)
  have hz : x - y ≠ 0 := fun e => hne (by grind)
  have h1 := O.mi x y (hx.mono (by decide)) (hy.mono (by decide))
  have s1 : Sz 175 (x - y) := hx.sub hy
  have h2 := O.ov x (x - y) (hx.mono (by decide)) (s1.mono (by decide)) hz
  have s2 : Sz 262 (x / (x - y)) := hx.div s1 hz
  have sa := gd_sz ha
  have sb := gd_sz hb
  have sd := diff_sz hb ha
  have d1 := O.mi b.1 a.1 (sb.1.mono (by decide)) (sa.1.mono (by decide))
  have d2 := O.mi b.2 a.2 (sb.2.mono (by decide)) (sa.2.mono (by decide))
  have m1 := O.ti (x / (x - y)) (b.1 - a.1) (s2.mono (by decide)) (sd.1.mono (by decide))
  have m2 := O.ti (x / (x - y)) (b.2 - a.2) (s2.mono (by decide)) (sd.2.mono (by decide))
  have p1 := O.pl a.1 (x / (x - y) * (b.1 - a.1)) (sa.1.mono (by decide)) ((s2.mul sd.1).mono (by decide))
  have p2 := O.pl a.2 (x / (x - y) * (b.2 - a.2)) (sa.2.mono (by decide)) ((s2.mul sd.2).mono (by decide))
  refine run_rt [.val (ptD a), .val (ptD b), .val (fr x), .val (fr y), .non, .non] t14 rfl rfl ?_
  have hc : evE (R N) (.comp (.call 2 (.cons (.idx (.slot 0) (.slot 5)) (.cons (.call 4 (.cons (.slot 4) (.cons (.call 3 (.cons (.idx (.slot 1) (.slot 5)) (.cons (.idx (.slot 0) (.slot 5)) .nil)) []) .nil)) []) .nil)) []) [5] (.rng1 (.cint 2)) .nil [5])
      [.val (ptD a), .val (ptD b), .val (fr x), .val (fr y), .val (fr (x / (x - y))), .non] = some (.lst [fr (meet a b x y).1, fr (meet a b x y).2]) := by
    rw [comp_range (n := 2) (g := fun k => fr (if k = 0 then (meet a b x y).1 else (meet a b x y).2)) rfl (by decide)]
    · rfl
    · intro k hk
      rcases (by omega : k = 0 ∨ k = 1) with rfl | rfl
      · simp [d1, m1, p1, meet]
      · simp [d2, m2, p2, meet]
  have e : ptD (meet a b x y) = .tup [fr (meet a b x y).1, fr (meet a b x y).2] := rfl
  rw [e]
  have ht : ∀ xs : List D, primD .tuple [.lst xs] = some (.tup xs) := fun _ => rfl
  simp [d_crossing, h1, h2, hc, ht]
/-! ### cuts -/
theorem sgn_opp (g : Ln) (a b : P) : decide (sgn (g.at a) * sgn (g.at b) < 0) = decide (opp g a b) := by
  congr 1
  unfold opp sgn
  refine propext ?_
  by_cases a1 : g.at a < 0
  · rw [if_pos a1]
    by_cases b1 : g.at b < 0
    · rw [if_pos b1]; constructor
      · intro h; omega
      · intro h; grind
    · rw [if_neg b1]
      by_cases b2 : 0 < g.at b
      · rw [if_pos b2]; constructor
        · intro _; exact .inl ⟨a1, b2⟩
        · intro _; decide
      · rw [if_neg b2]; constructor
        · intro h; omega
        · intro h; grind
  · rw [if_neg a1]
    by_cases a2 : 0 < g.at a
    · rw [if_pos a2]
      by_cases b1 : g.at b < 0
      · rw [if_pos b1]; constructor
        · intro _; exact .inr ⟨a2, b1⟩
        · intro _; decide
      · rw [if_neg b1]
        by_cases b2 : 0 < g.at b
        · rw [if_pos b2]; constructor
          · intro h; omega
          · intro h; grind
        · rw [if_neg b2]; constructor
          · intro h; omega
          · intro h; grind
    · rw [if_neg a2]; constructor
      · intro h; omega
      · intro h; grind
theorem sgn_small (q : Rat) : Bi 2 (sgn q) := by unfold sgn Bi; split <;> (try split) <;> decide
def leftBody : Ss := (.cons (.set 6 (.bin .mod (.bin .add (.slot 5) (.cint 1)) (.prim .len (.cons (.slot 0) .nil)))) (.cons (.ifS (.cmp .ge (.idx (.idx (.slot 3) (.slot 5)) (.cint 0)) (.cint 0)) (.cons (.app 4 (.idx (.slot 0) (.slot 5))) .nil) .nil) (.cons (.ifS (.cmp .lt (.bin .mul (.call 7 (.cons (.idx (.slot 3) (.slot 5)) .nil) []) (.call 7 (.cons (.idx (.slot 3) (.slot 6)) .nil) [])) (.cint 0)) (.cons (.app 4 (.call 14 (.cons (.idx (.slot 0) (.slot 5)) (.cons (.idx (.slot 0) (.slot 6)) (.cons (.idx (.slot 3) (.slot 5)) (.cons (.idx (.slot 3) (.slot 6)) .nil)))) [])) .nil) .nil) .nil)))
theorem left_turn (N : Nat) (h : 4 ≤ N) (g : Ln) (X : List P) (k : Nat) (a b : P) (hk : k < X.length) (ia : X[k]? = some a) (ib : X[(k + 1) % X.length]? = some b) (ha : Gd a) (hb : Gd b) (sa : Sz 87 (g.at a)) (sb : Sz 87 (g.at b)) (F : List P) (hF : F.length + 2 < line) (S E : SV) (x5 x6 x7 : SV) : ∃ x6',
    stepF (R N) 20000 [5] leftBody (.int (k : Int)) [.val (ptsD X), S, E, .val (.lst (X.map fun p => fr (g.at p))), .mls (F.map ptD), x5, x6, x7] =
      some (.nx [.val (ptsD X), S, E, .val (.lst (X.map fun p => fr (g.at p))), .mls ((F ++ piece g a b).map ptD), .val (.int (k : Int)), x6', x7]) := by
  have i1 := ix_ptsD ia
  have i2 := ix_ptsD ib
  have j1 : ixD (.lst (X.map fun p => fr (g.at p))) (.int (k : Int)) = some (fr (g.at a)) := ix_lst (by rw [List.getElem?_map, ia]; rfl)
  have j2 : ixD (.lst (X.map fun p => fr (g.at p))) (.int (((k + 1) % X.length : Nat) : Int)) = some (fr (g.at b)) := ix_lst (by rw [List.getElem?_map, ib]; rfl)
  have hn0 : ((X.length : Nat) : Int) ≠ 0 := by omega
  have hmod : binD .mod (.int ((k : Int) + 1)) (.int (X.length : Int)) = some (.int (((k + 1) % X.length : Nat) : Int)) := by
    rw [bin_mod hn0]
    exact congrArg (fun z => some (D.int z)) (fmod_nat (k + 1) X.length)
  have s1 := sign7 N (by omega) (g.at a)
  have s2 := sign7 N (by omega) (g.at b)
  have mm := mulOk_of (sgn_small (g.at a)) (sgn_small (g.at b)) (by decide)
  have so := sgn_opp g a b
  have hge : decide (0 ≤ (g.at a).num) = decide (0 ≤ g.at a) := by congr 1; exact propext Rat.num_nonneg
  have hlen := len_ptsD X
  have hcr : opp g a b → R N 14 [ptD a, ptD b, fr (g.at a), fr (g.at b)] = some (ptD (g.meet a b)) := fun o => cross14 N h a b _ _ ha hb sa sb (by unfold opp at o; grind)
  have hF1 : F.length < line := by omega
  have hF2 : F.length + 1 < line := by omega
  refine ⟨.val (.int (((k + 1) % X.length : Nat) : Int)), ?_⟩
  unfold piece
  generalize (((k + 1) % X.length : Nat) : Int) = O at *
  generalize (X.length : Int) = LL at *
  generalize (D.lst (X.map fun p => fr (g.at p))) = AM at *
  generalize ptsD X = Z at *
  by_cases c1 : 0 ≤ g.at a
  · rw [decide_eq_true c1] at hge
    by_cases c2 : opp g a b
    · have h14 := hcr c2
      rw [decide_eq_true c2] at so
      rw [if_pos c1, if_pos c2]
      simp [stepF, leftBody, hlen, hmod, i1, i2, j1, j2, s1, s2, bin_mul mm, c1, so, h14, hF1, hF2]
    · rw [decide_eq_false c2] at so
      rw [if_pos c1, if_neg c2]
      simp [stepF, leftBody, hlen, hmod, i1, i2, j1, j2, s1, s2, bin_mul mm, c1, so, hF1]
  · rw [decide_eq_false c1] at hge
    by_cases c2 : opp g a b
    · have h14 := hcr c2
      rw [decide_eq_true c2] at so
      rw [if_neg c1, if_pos c2]
      simp [stepF, leftBody, hlen, hmod, i1, i2, j1, j2, s1, s2, bin_mul mm, c1, so, h14, hF1]
    · rw [decide_eq_false c2] at so
      rw [if_neg c1, if_neg c2]
      simp [stepF, leftBody, hlen, hmod, i1, i2, j1, j2, s1, s2, bin_mul mm, c1, so]
end K28

/-! runs: left_of, sides_of, common, cut_out, without. -/
namespace K28
open PySem MP MG
theorem t17 : tab[17]? = some d_common_polygons := rfl
theorem t18 : tab[18]? = some d_cut_out := rfl
theorem t19 : tab[19]? = some d_without := rfl
theorem piece_len (g : Ln) (a b : P) : (piece g a b).length ≤ 2 := by unfold piece; split <;> split <;> simp
theorem left_loop (N : Nat) (h : 4 ≤ N) (g : Ln) {p : P} {ps : List P} (hX : ∀ v ∈ p :: ps, Gd v) (hs : ∀ v ∈ p :: ps, Sz 87 (g.at v)) (S E : SV) : ∀ (bs : List P) (a : P) (k : Nat) (F : List P) (x5 x6 x7 : SV),
    (p :: (ps ++ [p])).drop k = a :: bs → k + bs.length = (p :: ps).length → F.length + 2 * bs.length + 2 < line → ∃ x5' x6',
    forM (stepF (R N) 20000 [5] leftBody) ((List.range' k bs.length).map fun (i : Nat) => D.int (i : Int)) [.val (ptsD (p :: ps)), S, E, .val (.lst ((p :: ps).map fun q => fr (g.at q))), .mls (F.map ptD), x5, x6, x7] =
      some (.nx [.val (ptsD (p :: ps)), S, E, .val (.lst ((p :: ps).map fun q => fr (g.at q))), .mls ((F ++ clipW g a bs).map ptD), x5', x6', x7])
  | [], a, k, F, x5, x6, x7, _, _, _ => ⟨x5, x6, by
      have : F ++ clipW g a [] = F := by show F ++ [] = F; rw [List.append_nil]
      rw [this]; rfl⟩
  | b :: bs, a, k, F, x5, x6, x7, hd, hk, hF => by
    have hkl : k < (p :: ps).length := by simp only [List.length_cons] at *; omega
    obtain ⟨ia, ib⟩ := cyc_ix hd hkl
    have ma := List.mem_of_getElem? ia
    have mb := List.mem_of_getElem? ib
    obtain ⟨x6', hst⟩ := left_turn N h g (p :: ps) k a b hkl ia ib (hX a ma) (hX b mb) (hs a ma) (hs b mb) F (by omega) S E x5 x6 x7
    have hpl := piece_len g a b
    obtain ⟨x5'', x6'', ih⟩ := left_loop N h g hX hs S E bs b (k + 1) (F ++ piece g a b) (.val (.int (k : Int))) x6' x7 (drop_next hd) (by simp only [List.length_cons] at hk ⊢; omega) (by simp only [List.length_append, List.length_cons] at *; omega)
    refine ⟨x5'', x6'', ?_⟩
    have hl : (List.range' k (b :: bs).length).map (fun (i : Nat) => D.int (i : Int)) = .int (k : Int) :: (List.range' (k + 1) bs.length).map fun (i : Nat) => D.int (i : Int) := rfl
    have e : F ++ clipW g a (b :: bs) = F ++ piece g a b ++ clipW g b bs := by
      show F ++ (piece g a b ++ clipW g b bs) = _
      rw [List.append_assoc]
    rw [hl, forM_cons, hst, e]
    exact ih
theorem left15 (N : Nat) (h : 5 ≤ N) (g : Ln) (X : List P) (hX : ∀ v ∈ X, Gd v) (hs : Gd g.s) (he : Gd g.e) (hl : X.length ≤ 64) : R N 15 [ptsD X, ptD g.s, ptD g.e] = some (ptsD (flt (clip g X))) := by
  obtain ⟨N, rfl⟩ : ∃ k, N = k + 1 := ⟨N - 1, by omega⟩
  have l200 : (200 : Nat) < line := by decide
  have hs' : ∀ v ∈ X, Sz 87 (g.at v) := fun v hv => at_sz hs he (hX v hv)
  have ham : evE (R N) (.comp (.call 8 (.cons (.slot 1) (.cons (.slot 2) (.cons (.slot 7) .nil))) []) [7] (.seq (.slot 0)) .nil [7]) [.val (ptsD X), .val (ptD g.s), .val (ptD g.e), .non, .non, .non, .non, .non] = some (.lst (X.map fun q => fr (g.at q))) := by
    refine comp_seq_map (f := ptD) (xs := X) (g := fun q => fr (g.at q)) (d := ptsD X) (by simp) rfl (by omega) fun q hq => ?_
    have ht := turn8 N (by omega) g.s g.e q hs he (hX q hq)
    have : g.at q = turn g.s g.e q := rfl
    rw [← this] at ht
    generalize ptsD X = Z
    simp [ht]
  have hloop : ∃ x5' x6', forM (stepF (R N) 20000 [5] leftBody) ((List.range' 0 X.length).map fun (i : Nat) => D.int (i : Int)) [.val (ptsD X), .val (ptD g.s), .val (ptD g.e), .val (.lst (X.map fun q => fr (g.at q))), .mls [], .non, .non, .non] =
      some (.nx [.val (ptsD X), .val (ptD g.s), .val (ptD g.e), .val (.lst (X.map fun q => fr (g.at q))), .mls ((clip g X).map ptD), x5', x6', .non]) := by
    cases X with
    | nil => exact ⟨.non, .non, id rfl⟩
    | cons p ps =>
      obtain ⟨x5', x6', hx⟩ := left_loop N (by omega) g hX hs' (.val (ptD g.s)) (.val (ptD g.e)) (ps ++ [p]) p 0 [] .non .non .non rfl (by simp) (by simp only [List.length_append, List.length_cons, List.length_nil] at *; omega)
      refine ⟨x5', x6', ?_⟩
      have : (ps ++ [p]).length = (p :: ps).length := by simp
      rw [this] at hx
      exact hx
  obtain ⟨x5', x6', hf⟩ := hloop
  have hk := okRng_nat (n := X.length) (by omega)
  have er : rng 0 (X.length : Int) = (List.range' 0 X.length).map fun (i : Nat) => D.int (i : Int) := by rw [rng_nat, List.range_eq_range']
  refine run_rt [.val (ptsD X), .val (ptD g.s), .val (ptD g.e), .non, .non, .non, .non, .non] t15 rfl rfl ?_
  have hb : d_left_of.body = (.cons (.set 3 (.comp (.call 8 (.cons (.slot 1) (.cons (.slot 2) (.cons (.slot 7) .nil))) []) [7] (.seq (.slot 0)) .nil [7])) (.cons (.setM 4 (.lst .nil)) (.cons (.forS [5] (.rng1 (.prim .len (.cons (.slot 0) .nil))) leftBody) (.cons (.frz 4) (.cons (.ret (.ite (.cmp .gt (.prim .len (.cons (.slot 4) .nil)) (.cint 2)) (.slot 4) (.lst .nil))) .nil))))) := rfl
  rw [hb]
  have hlen := len_ptsD X
  have h0 : (0 : Nat) ≤ line := Nat.zero_le _
  unfold flt
  generalize clip g X = C at *
  have e1 : D.lst (C.map ptD) = ptsD C := rfl
  have hlc := len_ptsD C
  have hpc := pure_ptsD C
  have e2 : ptsD [] = D.lst [] := rfl
  by_cases hc : 2 < C.length
  · have hc' : (2 : Int) < (C.length : Int) := by omega
    rw [if_pos hc]
    generalize C.map ptD = CM at *
    generalize (C.length : Int) = CL at *
    generalize ptsD C = CC at *
    generalize X.map (fun q => fr (g.at q)) = AM at *
    generalize (X.length : Int) = LL at *
    generalize ptsD X = Z at *
    simp [ham, MP.fresh, h0, evS_forF, hlen, hk, er, hf, e1, hlc, hc', hpc]
  · have hc' : ¬ (2 : Int) < (C.length : Int) := by omega
    rw [if_neg hc, e2]
    generalize C.map ptD = CM at *
    generalize (C.length : Int) = CL at *
    generalize ptsD C = CC at *
    generalize X.map (fun q => fr (g.at q)) = AM at *
    generalize (X.length : Int) = LL at *
    generalize ptsD X = Z at *
    simp [ham, MP.fresh, h0, evS_forF, hlen, hk, er, hf, e1, hlc, hc', hpc]
/-! ### sides -/
def sideD (g : Ln) : D := .tup [ptD g.s, ptD g.e]
theorem sidesW_get : ∀ (bs : List P) (a : P) (k : Nat) (g : Ln), (sidesW a bs)[k]? = some g → (a :: bs)[k]? = some g.s ∧ (a :: bs)[k + 1]? = some g.e
  | [], a, k, g, h => by simp [sidesW] at h
  | b :: bs, a, k, g, h => by
    cases k with
    | zero =>
      have : (⟨a, b⟩ : Ln) = g := by simpa [sidesW] using h
      subst this
      exact ⟨rfl, rfl⟩
    | succ k =>
      have h' : (sidesW b bs)[k]? = some g := by simpa [sidesW] using h
      have := sidesW_get bs b k g h'
      exact ⟨by simpa using this.1, by simpa using this.2⟩
theorem sidesW_len : ∀ (bs : List P) (a : P), (sidesW a bs).length = bs.length
  | [], _ => rfl
  | b :: bs, a => by show (sidesW b bs).length + 1 = bs.length + 1; rw [sidesW_len bs b]
theorem sides_len (X : List P) : (sides X).length = X.length := by
  cases X with
  | nil => rfl
  | cons p ps => show (sidesW p (ps ++ [p])).length = _; rw [sidesW_len]; simp
theorem sides16 (N : Nat) (h : 1 ≤ N) (X : List P) (hl : X.length ≤ 64) : R N 16 [ptsD X] = some (.lst ((sides X).map sideD)) := by
  obtain ⟨N, rfl⟩ : ∃ k, N = k + 1 := ⟨N - 1, by omega⟩
  have l64 : (64 : Nat) ≤ line := by decide
  have h2 : (2 : Nat) ≤ line := by decide
  refine run_rt [.val (ptsD X), .non] t16 rfl rfl ?_
  have hc : evE (R N) (.comp (.tup (.cons (.idx (.slot 0) (.slot 1)) (.cons (.idx (.slot 0) (.bin .mod (.bin .add (.slot 1) (.cint 1)) (.prim .len (.cons (.slot 0) .nil)))) .nil))) [1] (.rng1 (.prim .len (.cons (.slot 0) .nil))) .nil [1]) [.val (ptsD X), .non] = some (.lst ((sides X).map sideD)) := by
    rw [comp_range (n := X.length) (g := fun k => match (sides X)[k]? with | some g => sideD g | none => .non) (by simp) (by omega)]
    · congr 2
      refine List.ext_getElem? fun k => ?_
      rw [List.getElem?_map, List.getElem?_map]
      by_cases hk : k < X.length
      · rw [List.getElem?_range hk]
        have : k < (sides X).length := by rw [sides_len]; exact hk
        show some (match (sides X)[k]? with | some g => sideD g | none => .non) = _
        rw [List.getElem?_eq_getElem this]; rfl
      · rw [List.getElem?_eq_none (by simpa using hk), List.getElem?_eq_none (by rw [sides_len]; omega)]; rfl
    · intro k hk
      have hks : k < (sides X).length := by rw [sides_len]; exact hk
      obtain ⟨g, hg⟩ : ∃ g, (sides X)[k]? = some g := ⟨_, List.getElem?_eq_getElem hks⟩
      rw [hg]
      cases X with
      | nil => simp at hk
      | cons p ps =>
        obtain ⟨q1, q2⟩ := sidesW_get (ps ++ [p]) p k g hg
        have hd : (p :: (ps ++ [p])).drop k = g.s :: g.e :: (p :: (ps ++ [p])).drop (k + 2) := by
          have l1 := (List.getElem?_eq_some_iff.mp q1)
          have l2 := (List.getElem?_eq_some_iff.mp q2)
          rw [List.drop_eq_getElem_cons l1.1, List.drop_eq_getElem_cons l2.1, l1.2, l2.2]
        obtain ⟨ia, ib⟩ := cyc_ix hd hk
        have i1 := ix_ptsD ia
        have i2 := ix_ptsD ib
        have hn0 : (((p :: ps).length : Nat) : Int) ≠ 0 := by omega
        have hmod : binD .mod (.int ((k : Int) + 1)) (.int ((p :: ps).length : Int)) = some (.int (((k + 1) % (p :: ps).length : Nat) : Int)) := by
          rw [bin_mod hn0]
          exact congrArg (fun z => some (D.int z)) (fmod_nat (k + 1) (p :: ps).length)
        have hlen := len_ptsD (p :: ps)
        generalize (((k + 1) % (p :: ps).length : Nat) : Int) = O at *
        generalize ((p :: ps).length : Int) = LL at *
        generalize ptsD (p :: ps) = Z at *
        simp [i1, hlen, hmod, i2, h2]
        rfl
  simp [d_sides_of, hc]
/-! ### what several have in common -/
theorem setTg_pair (i j : Nat) (a b : D) (ρ : Rho) : setTg [i, j] (.tup [a, b]) ρ = some ((ρ.set i (.val a)).set j (.val b)) := id rfl
theorem tru_pts (X : List P) : truD (ptsD X) = some (!X.isEmpty) := by
  show some (!(X.map ptD).isEmpty) = _
  rw [List.isEmpty_map]
structure Ctx2 (B : Nat) (Ls : List Ln) : Prop where
  L : LsOk B Ls
  b : B ≤ 48
theorem Ctx2.gd {B : Nat} {Ls : List Ln} (C : Ctx2 B Ls) {X : List P} (h : PX B Ls X) : ∀ v ∈ X, Gd v := fun v hv => gd_of C.L C.b (h.vx v hv)
theorem Ctx2.gs {B : Nat} {Ls : List Ln} (C : Ctx2 B Ls) {g : Ln} (h : g ∈ Ls) : Gd g.s ∧ Gd g.e := ⟨gd_of C.L C.b (.inl (C.L.s g h)), gd_of C.L C.b (.inl (C.L.e g h))⟩
theorem px_cut {B : Nat} {Ls : List Ln} (C : Ctx2 B Ls) {g : Ln} (h : On Ls g) {X : List P} (hX : PX B Ls X) : PX B Ls (flt (clip g X)) ∧ (flt (clip g X)).length ≤ X.length + 1 :=
  ⟨(hX.clip C.L h).flt, Nat.le_trans (flt_len _) (clip_len hX.un)⟩
theorem clips_px {B : Nat} {Ls : List Ln} (C : Ctx2 B Ls) : ∀ (gs : List Ln) (X : List P), (∀ g ∈ gs, g ∈ Ls) → PX B Ls X → PX B Ls (clips gs X) ∧ (clips gs X).length ≤ X.length + gs.length
  | [], X, _, h => ⟨h, Nat.le_refl _⟩
  | g :: gs, X, hg, h => by
    have h1 := px_cut C (on_mem (hg g (by simp))) h
    have h2 := clips_px C gs _ (fun k hk => hg k (List.mem_cons_of_mem _ hk)) h1.1
    refine ⟨h2.1, ?_⟩
    have := h2.2
    have := h1.2
    show (clips gs (flt (clip g X))).length ≤ _
    simp only [List.length_cons]
    omega
theorem common17 (N : Nat) (h : 6 ≤ N) {B : Nat} {Ls : List Ln} (C : Ctx2 B Ls) (X Q : List P) (hX : PX B Ls X) (hQ : ∀ g ∈ sides Q, g ∈ Ls) (hl : X.length + Q.length ≤ 60) : R N 17 [ptsD X, ptsD Q] = some (ptsD (clips (sides Q) X)) := by
  obtain ⟨N, rfl⟩ : ∃ k, N = k + 1 := ⟨N - 1, by omega⟩
  have loop : ∀ (gs : List Ln) (Y : List P) (x3 x4 : SV), (∀ g ∈ gs, g ∈ Ls) → PX B Ls Y → Y.length + gs.length ≤ 60 → ∃ x3' x4',
      forM (stepF (R N) 20000 [3, 4] (.cons (.ifS (.tru (.slot 2)) (.cons (.set 2 (.call 15 (.cons (.slot 2) (.cons (.slot 3) (.cons (.slot 4) .nil))) [])) .nil) .nil) .nil)) (gs.map sideD) [.val (ptsD X), .val (ptsD Q), .val (ptsD Y), x3, x4] =
      some (.nx [.val (ptsD X), .val (ptsD Q), .val (ptsD (clips gs Y)), x3', x4']) := by
    intro gs
    induction gs with
    | nil => intro Y x3 x4 _ _ _; exact ⟨x3, x4, rfl⟩
    | cons g gs ih =>
      intro Y x3 x4 hg hY hlen
      have hgL := hg g (by simp)
      have hl15 := left15 N (by omega) g Y (C.gd hY) (C.gs hgL).1 (C.gs hgL).2 (by simp only [List.length_cons] at hlen; omega)
      have hp := px_cut C (on_mem hgL) hY
      have htr := tru_pts Y
      have hst : stepF (R N) 20000 [3, 4] (.cons (.ifS (.tru (.slot 2)) (.cons (.set 2 (.call 15 (.cons (.slot 2) (.cons (.slot 3) (.cons (.slot 4) .nil))) [])) .nil) .nil) .nil) (sideD g) [.val (ptsD X), .val (ptsD Q), .val (ptsD Y), x3, x4] =
          some (.nx [.val (ptsD X), .val (ptsD Q), .val (ptsD (flt (clip g Y))), .val (ptD g.s), .val (ptD g.e)]) := by
        cases Y with
        | nil =>
          have e : flt (clip g []) = [] := rfl
          rw [e]
          have htr' : truD (ptsD []) = some false := rfl
          simp [stepF, sideD, setTg_pair, htr']
        | cons y ys =>
          have htr' : truD (ptsD (y :: ys)) = some true := rfl
          generalize flt (clip g (y :: ys)) = W at *
          simp [stepF, sideD, setTg_pair, htr', hl15]
      obtain ⟨x3', x4', hx⟩ := ih (flt (clip g Y)) (.val (ptD g.s)) (.val (ptD g.e)) (fun k hk => hg k (List.mem_cons_of_mem _ hk)) hp.1 (by have := hp.2; simp only [List.length_cons] at hlen; omega)
      exact ⟨x3', x4', by rw [List.map_cons, forM_cons, hst]; exact hx⟩
  obtain ⟨x3', x4', hf⟩ := loop (sides Q) X .non .non hQ hX (by rw [sides_len]; exact hl)
  have hs := sides16 N (by omega) Q (by omega)
  refine run_rt [.val (ptsD X), .val (ptsD Q), .non, .non, .non] t17 rfl rfl ?_
  generalize (sides Q).map sideD = SD at *
  simp [d_common_polygons, hs, evS_forF, lst?, hf]
def polD (Xs : List (List P)) : D := .lst (Xs.map ptsD)
@[simp] theorem pure_polD (X : List (List P)) : pure? (polD X) = some (polD X) := id rfl
theorem outs_px {B : Nat} {Ls : List Ln} (C : Ctx2 B Ls) : ∀ (gs : List Ln) (X : List P), (∀ g ∈ gs, g ∈ Ls) → PX B Ls X → (∀ Y ∈ outs gs X, PX B Ls Y ∧ Y.length ≤ X.length + gs.length) ∧ (outs gs X).length ≤ gs.length
  | [], X, _, h => ⟨fun Y hY => absurd hY (by simp [outs]), Nat.le_refl _⟩
  | g :: gs, X, hg, h => by
    have h1 := px_cut C (on_mem (hg g (by simp))) h
    have h2 := px_cut C (on_rev (hg g (by simp))) h
    have h3 := outs_px C gs _ (fun k hk => hg k (List.mem_cons_of_mem _ hk)) h1.1
    have e : outs (g :: gs) X = (if (flt (clip g.rev X)).isEmpty then [] else [flt (clip g.rev X)]) ++ outs gs (flt (clip g X)) := rfl
    rw [e]
    refine ⟨fun Y hY => ?_, ?_⟩
    · rcases List.mem_append.mp hY with hY | hY
      · split at hY
        · cases hY
        · rw [List.mem_singleton.mp hY]
          exact ⟨h2.1, by have := h2.2; simp only [List.length_cons]; omega⟩
      · have := h3.1 Y hY
        exact ⟨this.1, by have := this.2; have := h1.2; simp only [List.length_cons]; omega⟩
    · rw [List.length_append]
      have := h3.2
      have : (if (flt (clip g.rev X)).isEmpty then ([] : List (List P)) else [flt (clip g.rev X)]).length ≤ 1 := by split <;> simp
      simp only [List.length_cons]
      omega
def cutBody : Ss := (.cons (.set 6 (.call 15 (.cons (.slot 3) (.cons (.slot 5) (.cons (.slot 4) .nil))) [])) (.cons (.ifS (.tru (.slot 6)) (.cons (.app 2 (.slot 6)) .nil) .nil) (.cons (.set 3 (.call 15 (.cons (.slot 3) (.cons (.slot 4) (.cons (.slot 5) .nil))) [])) .nil)))
theorem cut18 (N : Nat) (h : 7 ≤ N) {B : Nat} {Ls : List Ln} (C : Ctx2 B Ls) (X Q : List P) (hX : PX B Ls X) (hQ : ∀ g ∈ sides Q, g ∈ Ls) (hl : X.length + Q.length ≤ 60) : R N 18 [ptsD X, ptsD Q] = some (polD (cutOut (sides Q) X)) := by
  obtain ⟨N, rfl⟩ : ∃ k, N = k + 1 := ⟨N - 1, by omega⟩
  have l200 : (200 : Nat) < line := by decide
  have loop : ∀ (gs : List Ln) (Y : List P) (F : List (List P)) (x4 x5 x6 : SV), (∀ g ∈ gs, g ∈ Ls) → PX B Ls Y → Y.length + gs.length ≤ 60 → F.length + gs.length ≤ 100 → ∃ Y' x4' x5' x6',
      forM (stepF (R N) 20000 [4, 5] cutBody) (gs.map sideD) [.val (ptsD X), .val (ptsD Q), .mls (F.map ptsD), .val (ptsD Y), x4, x5, x6] =
      some (.nx [.val (ptsD X), .val (ptsD Q), .mls ((F ++ outs gs Y).map ptsD), .val (ptsD Y'), x4', x5', x6']) := by
    intro gs
    induction gs with
    | nil => intro Y F x4 x5 x6 _ _ _ _; exact ⟨Y, x4, x5, x6, by rw [show outs [] Y = [] from rfl, List.append_nil]; rfl⟩
    | cons g gs ih =>
      intro Y F x4 x5 x6 hg hY hlen hF
      have hgL := hg g (by simp)
      have a1 := left15 N (by omega) g Y (C.gd hY) (C.gs hgL).1 (C.gs hgL).2 (by simp only [List.length_cons] at hlen; omega)
      have a2 : R N 15 [ptsD Y, ptD g.e, ptD g.s] = some (ptsD (flt (clip g.rev Y))) := left15 N (by omega) g.rev Y (C.gd hY) (C.gs hgL).2 (C.gs hgL).1 (by simp only [List.length_cons] at hlen; omega)
      have hp := px_cut C (on_mem hgL) hY
      have hFl : F.length < line := by omega
      have e0 : F ++ outs (g :: gs) Y = (F ++ (if (flt (clip g.rev Y)).isEmpty then [] else [flt (clip g.rev Y)])) ++ outs gs (flt (clip g Y)) := by
        rw [List.append_assoc]; rfl
      have htr := tru_pts (flt (clip g.rev Y))
      have hst : stepF (R N) 20000 [4, 5] cutBody (sideD g) [.val (ptsD X), .val (ptsD Q), .mls (F.map ptsD), .val (ptsD Y), x4, x5, x6] =
          some (.nx [.val (ptsD X), .val (ptsD Q), .mls ((F ++ (if (flt (clip g.rev Y)).isEmpty then [] else [flt (clip g.rev Y)])).map ptsD), .val (ptsD (flt (clip g Y))), .val (ptD g.s), .val (ptD g.e), .val (ptsD (flt (clip g.rev Y)))]) := by
        generalize flt (clip g.rev Y) = W at *
        generalize flt (clip g Y) = V at *
        cases hW : W.isEmpty with
        | true =>
          rw [hW] at htr
          simp [stepF, cutBody, sideD, setTg_pair, a1, a2, htr]
        | false =>
          rw [hW] at htr
          simp [stepF, cutBody, sideD, setTg_pair, a1, a2, htr, hFl]
      obtain ⟨Y', x4', x5', x6', hx⟩ := ih (flt (clip g Y)) (F ++ (if (flt (clip g.rev Y)).isEmpty then [] else [flt (clip g.rev Y)])) (.val (ptD g.s)) (.val (ptD g.e)) (.val (ptsD (flt (clip g.rev Y)))) (fun k hk => hg k (List.mem_cons_of_mem _ hk)) hp.1 (by have := hp.2; simp only [List.length_cons] at hlen; omega) (by
        have : (if (flt (clip g.rev Y)).isEmpty then ([] : List (List P)) else [flt (clip g.rev Y)]).length ≤ 1 := by split <;> simp
        rw [List.length_append]
        simp only [List.length_cons] at hF
        omega)
      exact ⟨Y', x4', x5', x6', by rw [List.map_cons, forM_cons, hst, e0]; exact hx⟩
  have hc := common17 N (by omega) C X Q hX hQ hl
  have hs := sides16 N (by omega) Q (by omega)
  have htr := tru_pts (clips (sides Q) X)
  have h1 : (1 : Nat) ≤ line := by decide
  have h0 : (0 : Nat) ≤ line := Nat.zero_le _
  refine run_rt [.val (ptsD X), .val (ptsD Q), .non, .non, .non, .non, .non] t18 rfl rfl ?_
  have hb : d_cut_out.body = (.cons (.ifS (.not (.tru (.call 17 (.cons (.slot 0) (.cons (.slot 1) .nil)) []))) (.cons (.ret (.lst (.cons (.slot 0) .nil))) .nil) .nil) (.cons (.setM 2 (.lst .nil)) (.cons (.set 3 (.slot 0)) (.cons (.forS [4, 5] (.seq (.call 16 (.cons (.slot 1) .nil) [])) cutBody) (.cons (.frz 2) (.cons (.ret (.slot 2)) .nil)))))) := rfl
  rw [hb]
  unfold cutOut
  cases hE : (clips (sides Q) X).isEmpty with
  | true =>
    rw [hE] at htr
    have e : polD [X] = .lst [ptsD X] := rfl
    rw [if_pos rfl, e]
    generalize clips (sides Q) X = W at *
    simp [hc, htr, h1]
  | false =>
    rw [hE] at htr
    rw [if_neg (by decide)]
    obtain ⟨Y', x4', x5', x6', hf⟩ := loop (sides Q) X [] .non .non .non hQ hX (by rw [sides_len]; exact hl) (by rw [sides_len, List.length_nil]; omega)
    rw [List.nil_append, List.map_nil] at hf
    have e : polD (outs (sides Q) X) = .lst ((outs (sides Q) X).map ptsD) := rfl
    rw [e]
    generalize clips (sides Q) X = W at *
    generalize (outs (sides Q) X).map ptsD = O at *
    generalize (sides Q).map sideD = SD at *
    simp [hc, htr, MP.fresh, h0, hs, evS_forF, lst?, hf]
end K28

/-! runs: without; the law's cuts and sums. -/
namespace K28
open PySem MP MG
theorem cutOut_px {B : Nat} {Ls : List Ln} (C : Ctx2 B Ls) {gs : List Ln} {X : List P} (hg : ∀ g ∈ gs, g ∈ Ls) (h : PX B Ls X) : (∀ Y ∈ cutOut gs X, PX B Ls Y ∧ Y.length ≤ X.length + gs.length) ∧ (cutOut gs X).length ≤ gs.length + 1 := by
  unfold cutOut
  split
  · exact ⟨fun Y hY => by rw [List.mem_singleton.mp hY]; exact ⟨h, by omega⟩, by simp⟩
  · have := outs_px C gs X hg h
    exact ⟨this.1, by omega⟩
/-- all pieces of one kind -/
def AllP (B : Nat) (Ls : List Ln) (n : Nat) (Xs : List (List P)) : Prop := ∀ X ∈ Xs, PX B Ls X ∧ X.length ≤ n
theorem cutAll_px {B : Nat} {Ls : List Ln} (C : Ctx2 B Ls) {gs : List Ln} (hg : ∀ g ∈ gs, g ∈ Ls) {n : Nat} : ∀ (Xs acc : List (List P)), AllP B Ls n Xs → AllP B Ls (n + gs.length) acc → AllP B Ls (n + gs.length) (Xs.foldl (fun r X => r ++ cutOut gs X) acc) ∧ (Xs.foldl (fun r X => r ++ cutOut gs X) acc).length ≤ acc.length + Xs.length * (gs.length + 1)
  | [], acc, _, ha => ⟨ha, by show acc.length ≤ acc.length + 0 * (gs.length + 1); omega⟩
  | X :: Xs, acc, hX, ha => by
    have h1 := cutOut_px C hg (hX X (by simp)).1
    have hn := (hX X (by simp)).2
    have ih := cutAll_px C hg (n := n) Xs (acc ++ cutOut gs X) (fun Y hY => hX Y (List.mem_cons_of_mem _ hY)) fun Y hY => by
      rcases List.mem_append.mp hY with hY | hY
      · exact ha Y hY
      · have := h1.1 Y hY
        exact ⟨this.1, by have := this.2; omega⟩
    refine ⟨ih.1, Nat.le_trans ih.2 ?_⟩
    rw [List.length_append, List.length_cons, Nat.succ_mul]
    have := h1.2
    omega
theorem plus45 (N : Nat) (h : 3 ≤ N) (a b : Rat) (ha : Sz 4500 a) (hb : Sz 4500 b) : R N 2 [fr a, fr b] = some (fr (a + b)) := op_plus (j := 4500) mk1 t2 (by decide) (by decide) N h a b ha hb
theorem polD_cat (X Y : List (List P)) (h : X.length + Y.length ≤ line) : catD (polD X) (polD Y) = some ((X ++ Y).map ptsD) := by
  show (if decide ((X.map ptsD).length + (Y.map ptsD).length ≤ line) = true then _ else _) = _
  rw [List.length_map, List.length_map, if_pos (decide_eq_true h), List.map_append]
/-- the pieces behind the polygons Qs -/
def pcs (Qs : List (List P)) (Xs : List (List P)) : List (List P) := Qs.foldl (fun r Q => cutAll (sides Q) r) Xs
theorem pcs_pieces (Qs : List (List P)) (X : List P) : pcs Qs [X] = pieces (Qs.map sides) X := by
  unfold pcs pieces
  rw [List.foldl_map]
theorem without19 (N : Nat) (h : 8 ≤ N) {Ls : List Ln} (C : Ctx2 36 Ls) (h18 : Ls.length ≤ 18) (X : List P) (Qs : List (List P)) (hX : PX 36 Ls X) (hQ : ∀ Q ∈ Qs, (∀ g ∈ sides Q, g ∈ Ls) ∧ Q.length ≤ 6) (hl : X.length ≤ 6) (hn : Qs.length ≤ 3) :
    R N 19 [ptsD X, polD Qs] = some (fr (tot cr (pieces (Qs.map sides) X))) := by
  obtain ⟨N, rfl⟩ : ∃ k, N = k + 1 := ⟨N - 1, by omega⟩
  have l5000 : (100000 : Nat) < line := by decide
  -- one polygon behind another
  have inner : ∀ (Q : List P) (n : Nat), (∀ g ∈ sides Q, g ∈ Ls) → Q.length ≤ 6 → n ≤ 24 → ∀ (Xs acc : List (List P)) (x0 x1 x2 : SV) (x4 x5 : SV), AllP 36 Ls n Xs → acc.length + Xs.length * 7 ≤ 5000 → ∃ x5',
      forM (stepF (R N) 20000 [5] (.cons (.set 6 (.bin .add (.slot 6) (.call 18 (.cons (.slot 5) (.cons (.slot 3) .nil)) []))) .nil)) (Xs.map ptsD) [x0, x1, x2, .val (ptsD Q), x4, x5, .val (polD acc)] =
      some (.nx [x0, x1, x2, .val (ptsD Q), x4, x5', .val (polD (Xs.foldl (fun r X => r ++ cutOut (sides Q) X) acc))]) := by
    intro Q n hg hq6 hn24 Xs
    induction Xs with
    | nil => intro acc x0 x1 x2 x4 x5 _ _; exact ⟨x5, rfl⟩
    | cons Y Ys ih =>
      intro acc x0 x1 x2 x4 x5 hA hlen
      have hY := hA Y (by simp)
      have hc := cut18 N (by omega) C Y Q hY.1 hg (by have := hY.2; omega)
      have hco := cutOut_px C hg hY.1
      have hsl := sides_len Q
      have hcat := polD_cat acc (cutOut (sides Q) Y) (by have := hco.2; simp only [List.length_cons] at hlen; omega)
      have hst : stepF (R N) 20000 [5] (.cons (.set 6 (.bin .add (.slot 6) (.call 18 (.cons (.slot 5) (.cons (.slot 3) .nil)) []))) .nil) (ptsD Y) [x0, x1, x2, .val (ptsD Q), x4, x5, .val (polD acc)] =
          some (.nx [x0, x1, x2, .val (ptsD Q), x4, .val (ptsD Y), .val (polD (acc ++ cutOut (sides Q) Y))]) := by
        have e : polD (acc ++ cutOut (sides Q) Y) = .lst ((acc ++ cutOut (sides Q) Y).map ptsD) := rfl
        rw [e]
        generalize (acc ++ cutOut (sides Q) Y).map ptsD = W at *
        simp [stepF, hc, hcat]
      obtain ⟨x5', hx⟩ := ih (acc ++ cutOut (sides Q) Y) x0 x1 x2 x4 (.val (ptsD Y)) (fun Z hZ => hA Z (List.mem_cons_of_mem _ hZ)) (by
        have := hco.2
        rw [List.length_append]
        simp only [List.length_cons] at hlen
        omega)
      exact ⟨x5', by rw [List.map_cons, forM_cons, hst]; exact hx⟩
  have outer : ∀ (Rs : List (List P)) (Xs : List (List P)) (i c : Nat) (x3 x4 x5 x6 : SV), (∀ Q ∈ Rs, (∀ g ∈ sides Q, g ∈ Ls) ∧ Q.length ≤ 6) → AllP 36 Ls (6 + 6 * i) Xs → i + Rs.length ≤ 3 → Xs.length ≤ 7 ^ i → ∃ x3' x5' x6',
      forM (stepF (R N) 20000 [3] (.cons (.set 6 (.lst .nil)) (.cons (.forS [5] (.seq (.slot 2)) (.cons (.set 6 (.bin .add (.slot 6) (.call 18 (.cons (.slot 5) (.cons (.slot 3) .nil)) []))) .nil)) (.cons (.set 2 (.slot 6)) .nil)))) (Rs.map ptsD) [.val (ptsD X), .val (polD Qs), .val (polD Xs), x3, x4, x5, x6] =
      some (.nx [.val (ptsD X), .val (polD Qs), .val (polD (pcs Rs Xs)), x3', x4, x5', x6']) ∧ AllP 36 Ls 24 (pcs Rs Xs) ∧ (pcs Rs Xs).length ≤ 343 := by
    intro Rs
    induction Rs with
    | nil =>
      intro Xs i c x3 x4 x5 x6 _ hA hi hlen
      refine ⟨x3, x5, x6, rfl, fun Y hY => ⟨(hA Y hY).1, by have := (hA Y hY).2; simp only [List.length_nil] at hi; omega⟩, ?_⟩
      have : 7 ^ i ≤ 7 ^ 3 := Nat.pow_le_pow_right (by decide) (by simp only [List.length_nil] at hi; omega)
      exact Nat.le_trans hlen (Nat.le_trans this (by decide))
    | cons Q Rs ih =>
      intro Xs i c x3 x4 x5 x6 hR hA hi hlen
      have hq := hR Q (by simp)
      simp only [List.length_cons] at hi
      have hsl := sides_len Q
      have h7 : 7 ^ i ≤ 7 ^ 2 := Nat.pow_le_pow_right (by decide) (by omega)
      have h49 : Xs.length ≤ 49 := Nat.le_trans hlen (Nat.le_trans h7 (by decide))
      obtain ⟨x5', hx⟩ := inner Q (6 + 6 * i) hq.1 hq.2 (by omega) Xs [] (.val (ptsD X)) (.val (polD Qs)) (.val (polD Xs)) x4 x5 hA (by simp only [List.length_nil]; omega)
      have hca := cutAll_px C hq.1 (n := 6 + 6 * i) Xs [] hA (fun Y hY => absurd hY (by simp))
      have hst : stepF (R N) 20000 [3] (.cons (.set 6 (.lst .nil)) (.cons (.forS [5] (.seq (.slot 2)) (.cons (.set 6 (.bin .add (.slot 6) (.call 18 (.cons (.slot 5) (.cons (.slot 3) .nil)) []))) .nil)) (.cons (.set 2 (.slot 6)) .nil))) (ptsD Q) [.val (ptsD X), .val (polD Qs), .val (polD Xs), x3, x4, x5, x6] =
          some (.nx [.val (ptsD X), .val (polD Qs), .val (polD (cutAll (sides Q) Xs)), .val (ptsD Q), x4, x5', .val (polD (cutAll (sides Q) Xs))]) := by
        have h0 : (0 : Nat) ≤ line := Nat.zero_le _
        have e : polD [] = .lst [] := rfl
        have e2 : lst? (polD Xs) = some (Xs.map ptsD) := rfl
        rw [e] at hx
        show _ = some (Fl.nx [.val (ptsD X), .val (polD Qs), .val (polD (Xs.foldl (fun r X => r ++ cutOut (sides Q) X) [])), .val (ptsD Q), x4, x5', .val (polD (Xs.foldl (fun r X => r ++ cutOut (sides Q) X) []))])
        generalize Xs.foldl (fun r X => r ++ cutOut (sides Q) X) [] = W at *
        simp [stepF, h0, evS_forF, e2, hx]
      obtain ⟨x3', x5'', x6'', hy, h1, h2⟩ := ih (cutAll (sides Q) Xs) (i + 1) c (.val (ptsD Q)) x4 x5' (.val (polD (cutAll (sides Q) Xs))) (fun Z hZ => hR Z (List.mem_cons_of_mem _ hZ)) (fun Y hY => by
        have := hca.1 Y hY
        exact ⟨this.1, by have := this.2; omega⟩) (by omega) (by
        have := hca.2
        simp only [List.length_nil] at this
        have e : (7 : Nat) ^ (i + 1) = 7 ^ i * 7 := Nat.pow_succ ..
        have : Xs.length * ((sides Q).length + 1) ≤ 7 ^ i * 7 := Nat.mul_le_mul hlen (by omega)
        show (Xs.foldl (fun r X => r ++ cutOut (sides Q) X) []).length ≤ _
        omega)
      exact ⟨x3', x5'', x6'', by rw [List.map_cons, forM_cons, hst]; exact hy, h1, h2⟩
  obtain ⟨x3', x5', x6', hf, hA, hlen⟩ := outer Qs [X] 0 0 .non .non .non .non hQ (fun Y hY => by rw [List.mem_singleton.mp hY]; exact ⟨hX, by omega⟩) (by omega) (by simp)
  rw [pcs_pieces] at hf hA hlen
  generalize pieces (Qs.map sides) X = PP at *
  -- the sum
  have sum : ∀ (Ys done : List (List P)) (x3 x5 x6 : SV), (∀ Y ∈ done ++ Ys, PX 36 Ls Y ∧ Y.length ≤ 24) → (done ++ Ys).length ≤ 343 → ∃ x5',
      forM (stepF (R N) 20000 [5] (.cons (.set 4 (.call 2 (.cons (.slot 4) (.cons (.call 13 (.cons (.slot 5) .nil) []) .nil)) [])) .nil)) (Ys.map ptsD) [.val (ptsD X), .val (polD Qs), .val (polD PP), x3, .val (fr (tot cr done)), x5, x6] =
      some (.nx [.val (ptsD X), .val (polD Qs), .val (polD PP), x3, .val (fr (tot cr (done ++ Ys))), x5', x6]) := by
    intro Ys
    induction Ys with
    | nil => intro done x3 x5 x6 _ _; exact ⟨x5, by rw [List.append_nil]; rfl⟩
    | cons Y Ys ih =>
      intro done x3 x5 x6 hY hlen
      have hy := hY Y (by simp)
      have gY := C.gd hy.1
      have s13 := size13 N (by omega) Y gY (by omega)
      have cs := cyc_sz gY
      have hdone : done.length ≤ 2 ^ 20 := by
        have : (343 : Nat) ≤ 2 ^ 20 := by decide
        simp only [List.length_append] at hlen
        omega
      have ts := tot_sz C.L h18 (Xs := done) (fun Z hZ => by
        have := hY Z (List.mem_append_left _ hZ)
        exact ⟨by omega, this.1.vx⟩) hdone
      have pp := plus45 N (by omega) (tot cr done) (cyc cr Y) (ts.mono (by decide)) (cs.mono (by omega))
      have et : tot cr done + cyc cr Y = tot cr (done ++ [Y]) := by rw [tot_append, tot_cons, tot_nil]; grind
      rw [et] at pp
      have hst : stepF (R N) 20000 [5] (.cons (.set 4 (.call 2 (.cons (.slot 4) (.cons (.call 13 (.cons (.slot 5) .nil) []) .nil)) [])) .nil) (ptsD Y) [.val (ptsD X), .val (polD Qs), .val (polD PP), x3, .val (fr (tot cr done)), x5, x6] =
          some (.nx [.val (ptsD X), .val (polD Qs), .val (polD PP), x3, .val (fr (tot cr (done ++ [Y]))), .val (ptsD Y), x6]) := by
        generalize tot cr (done ++ [Y]) = T1 at *
        simp [stepF, s13, pp]
      have ea : done ++ Y :: Ys = (done ++ [Y]) ++ Ys := by simp
      obtain ⟨x5', hx⟩ := ih (done ++ [Y]) x3 (.val (ptsD Y)) x6 (by rw [← ea]; exact hY) (by rw [← ea]; exact hlen)
      exact ⟨x5', by rw [List.map_cons, forM_cons, hst, ea]; exact hx⟩
  obtain ⟨x5'', hs⟩ := sum PP [] x3' x5' x6' (by rw [List.nil_append]; exact hA) (by rw [List.nil_append]; exact hlen)
  rw [List.nil_append] at hs
  have z : fr (tot cr []) = D.tup [.int 0, .int 1] := rfl
  rw [z] at hs
  have h1 : (1 : Nat) ≤ line := by decide
  have h2 : (2 : Nat) ≤ line := by decide
  have eX : polD [X] = .lst [ptsD X] := rfl
  rw [eX] at hf
  have l1 : lst? (polD Qs) = some (Qs.map ptsD) := rfl
  have l2 : lst? (polD PP) = some (PP.map ptsD) := rfl
  refine run_rt [.val (ptsD X), .val (polD Qs), .non, .non, .non, .non, .non] t19 rfl rfl ?_
  generalize Qs.map ptsD = QM at *
  generalize PP.map ptsD = PM at *
  generalize tot cr PP = TT at *
  simp [d_without, h1, h2, evS_forF, l1, hf, l2, hs]
end K28

/-! runs: the law's own cuts and sums. -/
namespace K28
open PySem MP MG
theorem t30 : tab[30]? = some d_law_is_side := rfl
theorem t31 : tab[31]? = some d_law_hull := rfl
theorem t32 : tab[32]? = some d_law_other := rfl
theorem t33 : tab[33]? = some d_law_least := rfl
theorem t35 : tab[35]? = some d_law_clip := rfl
theorem t36 : tab[36]? = some d_law_shared := rfl
theorem t38 : tab[38]? = some d_law_shoelace := rfl
theorem t41 : tab[41]? = some d_law_is_left := rfl
theorem num_opp (g : Ln) (a b : P) : decide ((g.at a).num * (g.at b).num < 0) = decide (opp g a b) := by
  congr 1
  have e1 := num_lt (g.at a)
  have e2 := num_lt (g.at b)
  have e3 := num_gt (g.at a)
  have e4 := num_gt (g.at b)
  unfold opp
  rw [← e1, ← e2, ← e3, ← e4]
  generalize (g.at a).num = x
  generalize (g.at b).num = y
  refine propext ⟨fun h => ?_, fun h => ?_⟩
  · rcases (by omega : x < 0 ∨ x = 0 ∨ 0 < x) with hx | hx | hx
    · refine .inl ⟨hx, Classical.byContradiction fun hy => ?_⟩
      have := Int.mul_nonneg_of_nonpos_of_nonpos (a := x) (b := y) (by omega) (by omega)
      omega
    · subst hx; simp at h
    · refine .inr ⟨hx, Classical.byContradiction fun hy => ?_⟩
      have := Int.mul_nonneg (a := x) (b := y) (by omega) (by omega)
      omega
  · rcases h with ⟨h1, h2⟩ | ⟨h1, h2⟩
    · exact Int.mul_neg_of_neg_of_pos h1 h2
    · exact Int.mul_neg_of_pos_of_neg h1 h2
def lclipBody : Ss := (.cons (.set 5 (.idx (.slot 0) (.slot 4))) (.cons (.set 6 (.idx (.slot 0) (.bin .mod (.bin .add (.slot 4) (.cint 1)) (.prim .len (.cons (.slot 0) .nil))))) (.cons (.set 7 (.call 29 (.cons (.slot 1) (.cons (.slot 2) (.cons (.slot 5) .nil))) [])) (.cons (.set 8 (.call 29 (.cons (.slot 1) (.cons (.slot 2) (.cons (.slot 6) .nil))) [])) (.cons (.ifS (.cmp .ge (.idx (.slot 7) (.cint 0)) (.cint 0)) (.cons (.app 3 (.slot 5)) .nil) .nil) (.cons (.ifS (.cmp .lt (.bin .mul (.idx (.slot 7) (.cint 0)) (.idx (.slot 8) (.cint 0))) (.cint 0)) (.cons (.set 9 (.call 26 (.cons (.slot 7) (.cons (.call 24 (.cons (.slot 7) (.cons (.slot 8) .nil)) []) .nil)) [])) (.cons (.app 3 (.prim .tuple (.cons (.comp (.call 23 (.cons (.idx (.slot 5) (.slot 10)) (.cons (.call 25 (.cons (.slot 9) (.cons (.call 24 (.cons (.idx (.slot 6) (.slot 10)) (.cons (.idx (.slot 5) (.slot 10)) .nil)) []) .nil)) []) .nil)) []) [10] (.rng1 (.cint 2)) .nil [10]) .nil))) .nil)) .nil) .nil))))))
theorem lclip_turn (N : Nat) (h : 3 ≤ N) (g : Ln) (X : List P) (k : Nat) (a b : P) (hk : k < X.length) (ia : X[k]? = some a) (ib : X[(k + 1) % X.length]? = some b) (ha : Gd a) (hb : Gd b) (hs : Gd g.s) (he : Gd g.e) (F : List P) (hF : F.length + 2 < line) (x4 x5 x6 x7 x8 x9 x10 : SV) : ∃ x5' x6' x7' x8' x9',
    stepF (R N) 20000 [4] lclipBody (.int (k : Int)) [.val (ptsD X), .val (ptD g.s), .val (ptD g.e), .mls (F.map ptD), x4, x5, x6, x7, x8, x9, x10] =
      some (.nx [.val (ptsD X), .val (ptD g.s), .val (ptD g.e), .mls ((F ++ piece g a b).map ptD), .val (.int (k : Int)), x5', x6', x7', x8', x9', x10]) := by
  have O := osL N (by omega)
  have i1 := ix_ptsD ia
  have i2 := ix_ptsD ib
  have hn0 : ((X.length : Nat) : Int) ≠ 0 := by omega
  have hmod : binD .mod (.int ((k : Int) + 1)) (.int (X.length : Int)) = some (.int (((k + 1) % X.length : Nat) : Int)) := by
    rw [bin_mod hn0]
    exact congrArg (fun z => some (D.int z)) (fmod_nat (k + 1) X.length)
  have t1 : R N 29 [ptD g.s, ptD g.e, ptD a] = some (fr (g.at a)) := turn29 N h g.s g.e a hs he ha
  have t2 : R N 29 [ptD g.s, ptD g.e, ptD b] = some (fr (g.at b)) := turn29 N h g.s g.e b hs he hb
  have sa : Sz 87 (g.at a) := at_sz hs he ha
  have sb : Sz 87 (g.at b) := at_sz hs he hb
  have mm := mulOk_of sa.n sb.n (by decide)
  have so := num_opp g a b
  have hlen := len_ptsD X
  have hF1 : F.length < line := by omega
  have hF2 : F.length + 1 < line := by omega
  have hmeet : opp g a b → R N 24 [fr (g.at a), fr (g.at b)] = some (fr (g.at a - g.at b)) ∧ R N 26 [fr (g.at a), fr (g.at a - g.at b)] = some (fr (g.at a / (g.at a - g.at b))) ∧
      ∀ (Z : SV) (S E M x4 : SV) (x7 x8 x10 : SV), evE (R N) (.comp (.call 23 (.cons (.idx (.slot 5) (.slot 10)) (.cons (.call 25 (.cons (.slot 9) (.cons (.call 24 (.cons (.idx (.slot 6) (.slot 10)) (.cons (.idx (.slot 5) (.slot 10)) .nil)) []) .nil)) []) .nil)) []) [10] (.rng1 (.cint 2)) .nil [10])
        [Z, S, E, M, x4, .val (ptD a), .val (ptD b), x7, x8, .val (fr (g.at a / (g.at a - g.at b))), x10] = some (.lst [fr (g.meet a b).1, fr (g.meet a b).2]) := by
    intro o
    have hz : g.at a - g.at b ≠ 0 := by unfold opp at o; grind
    have h1 := O.mi _ _ (sa.mono (by decide)) (sb.mono (by decide))
    have s1 : Sz 175 (g.at a - g.at b) := sa.sub sb
    have h2 := O.ov _ _ (sa.mono (by decide)) (s1.mono (by decide)) hz
    have s2 : Sz 262 (g.at a / (g.at a - g.at b)) := sa.div s1 hz
    have qa := gd_sz ha
    have qb := gd_sz hb
    have sd := diff_sz hb ha
    have d1 := O.mi b.1 a.1 (qb.1.mono (by decide)) (qa.1.mono (by decide))
    have d2 := O.mi b.2 a.2 (qb.2.mono (by decide)) (qa.2.mono (by decide))
    have m1 := O.ti _ (b.1 - a.1) (s2.mono (by decide)) (sd.1.mono (by decide))
    have m2 := O.ti _ (b.2 - a.2) (s2.mono (by decide)) (sd.2.mono (by decide))
    have p1 := O.pl a.1 _ (qa.1.mono (by decide)) ((s2.mul sd.1).mono (by decide : 303 ≤ 2400))
    have p2 := O.pl a.2 _ (qa.2.mono (by decide)) ((s2.mul sd.2).mono (by decide : 303 ≤ 2400))
    refine ⟨h1, h2, fun Z S E M x4 x7 x8 x10 => ?_⟩
    rw [comp_range (n := 2) (g := fun k => fr (if k = 0 then (g.meet a b).1 else (g.meet a b).2)) rfl (by decide)]
    · rfl
    · intro k hk
      rcases (by omega : k = 0 ∨ k = 1) with rfl | rfl
      · simp [d1, m1, p1, Ln.meet, meet]
      · simp [d2, m2, p2, Ln.meet, meet]
  have ht : ∀ xs : List D, primD .tuple [.lst xs] = some (.tup xs) := fun _ => rfl
  have hpt : D.tup [fr (g.meet a b).1, fr (g.meet a b).2] = ptD (g.meet a b) := rfl
  unfold piece
  generalize (((k + 1) % X.length : Nat) : Int) = O' at *
  generalize (X.length : Int) = LL at *
  by_cases c1 : 0 ≤ g.at a
  · by_cases c2 : opp g a b
    · obtain ⟨h1, h2, h3⟩ := hmeet c2
      rw [decide_eq_true c2] at so
      rw [if_pos c1, if_pos c2]
      refine ⟨.val (ptD a), .val (ptD b), .val (fr (g.at a)), .val (fr (g.at b)), .val (fr (g.at a / (g.at a - g.at b))), ?_⟩
      generalize g.meet a b = mt at *
      simp [stepF, lclipBody, hlen, hmod, i1, i2, t1, t2, bin_mul mm, c1, so, h1, h2, h3, ht, hF1, hF2]
      exact hpt
    · rw [decide_eq_false c2] at so
      rw [if_pos c1, if_neg c2]
      refine ⟨.val (ptD a), .val (ptD b), .val (fr (g.at a)), .val (fr (g.at b)), x9, ?_⟩
      simp [stepF, lclipBody, hlen, hmod, i1, i2, t1, t2, bin_mul mm, c1, so, hF1]
  · by_cases c2 : opp g a b
    · obtain ⟨h1, h2, h3⟩ := hmeet c2
      rw [decide_eq_true c2] at so
      rw [if_neg c1, if_pos c2]
      refine ⟨.val (ptD a), .val (ptD b), .val (fr (g.at a)), .val (fr (g.at b)), .val (fr (g.at a / (g.at a - g.at b))), ?_⟩
      generalize g.meet a b = mt at *
      simp [stepF, lclipBody, hlen, hmod, i1, i2, t1, t2, bin_mul mm, c1, so, h1, h2, h3, ht, hF1]
      exact hpt
    · rw [decide_eq_false c2] at so
      rw [if_neg c1, if_neg c2]
      refine ⟨.val (ptD a), .val (ptD b), .val (fr (g.at a)), .val (fr (g.at b)), x9, ?_⟩
      simp [stepF, lclipBody, hlen, hmod, i1, i2, t1, t2, bin_mul mm, c1, so]
theorem lclip_loop (N : Nat) (h : 3 ≤ N) (g : Ln) (hs : Gd g.s) (he : Gd g.e) {p : P} {ps : List P} (hX : ∀ v ∈ p :: ps, Gd v) : ∀ (bs : List P) (a : P) (k : Nat) (F : List P) (x4 x5 x6 x7 x8 x9 x10 : SV),
    (p :: (ps ++ [p])).drop k = a :: bs → k + bs.length = (p :: ps).length → F.length + 2 * bs.length + 2 < line → ∃ x4' x5' x6' x7' x8' x9',
    forM (stepF (R N) 20000 [4] lclipBody) ((List.range' k bs.length).map fun (i : Nat) => D.int (i : Int)) [.val (ptsD (p :: ps)), .val (ptD g.s), .val (ptD g.e), .mls (F.map ptD), x4, x5, x6, x7, x8, x9, x10] =
      some (.nx [.val (ptsD (p :: ps)), .val (ptD g.s), .val (ptD g.e), .mls ((F ++ clipW g a bs).map ptD), x4', x5', x6', x7', x8', x9', x10])
  | [], a, k, F, x4, x5, x6, x7, x8, x9, x10, _, _, _ => ⟨x4, x5, x6, x7, x8, x9, by
      have : F ++ clipW g a [] = F := by show F ++ [] = F; rw [List.append_nil]
      rw [this]; rfl⟩
  | b :: bs, a, k, F, x4, x5, x6, x7, x8, x9, x10, hd, hk, hF => by
    have hkl : k < (p :: ps).length := by simp only [List.length_cons] at *; omega
    obtain ⟨ia, ib⟩ := cyc_ix hd hkl
    have ma := List.mem_of_getElem? ia
    have mb := List.mem_of_getElem? ib
    obtain ⟨y5, y6, y7, y8, y9, hst⟩ := lclip_turn N h g (p :: ps) k a b hkl ia ib (hX a ma) (hX b mb) hs he F (by omega) x4 x5 x6 x7 x8 x9 x10
    have hpl := piece_len g a b
    obtain ⟨z4, z5, z6, z7, z8, z9, ih⟩ := lclip_loop N h g hs he hX bs b (k + 1) (F ++ piece g a b) (.val (.int (k : Int))) y5 y6 y7 y8 y9 x10 (drop_next hd) (by simp only [List.length_cons] at hk ⊢; omega) (by simp only [List.length_append, List.length_cons] at *; omega)
    refine ⟨z4, z5, z6, z7, z8, z9, ?_⟩
    have hl : (List.range' k (b :: bs).length).map (fun (i : Nat) => D.int (i : Int)) = .int (k : Int) :: (List.range' (k + 1) bs.length).map fun (i : Nat) => D.int (i : Int) := rfl
    have e : F ++ clipW g a (b :: bs) = F ++ piece g a b ++ clipW g b bs := by
      show F ++ (piece g a b ++ clipW g b bs) = _
      rw [List.append_assoc]
    rw [hl, forM_cons, hst, e]
    exact ih
theorem lclip35 (N : Nat) (h : 4 ≤ N) (g : Ln) (X : List P) (hX : ∀ v ∈ X, Gd v) (hs : Gd g.s) (he : Gd g.e) (hl : X.length ≤ 64) : R N 35 [ptsD X, ptD g.s, ptD g.e] = some (ptsD (clip g X)) := by
  obtain ⟨N, rfl⟩ : ∃ k, N = k + 1 := ⟨N - 1, by omega⟩
  have l200 : (200 : Nat) < line := by decide
  have hloop : ∃ y4 y5 y6 y7 y8 y9, forM (stepF (R N) 20000 [4] lclipBody) ((List.range' 0 X.length).map fun (i : Nat) => D.int (i : Int)) [.val (ptsD X), .val (ptD g.s), .val (ptD g.e), .mls [], .non, .non, .non, .non, .non, .non, .non] =
      some (.nx [.val (ptsD X), .val (ptD g.s), .val (ptD g.e), .mls ((clip g X).map ptD), y4, y5, y6, y7, y8, y9, .non]) := by
    cases X with
    | nil => exact ⟨.non, .non, .non, .non, .non, .non, id rfl⟩
    | cons p ps =>
      obtain ⟨y4, y5, y6, y7, y8, y9, hx⟩ := lclip_loop N (by omega) g hs he hX (ps ++ [p]) p 0 [] .non .non .non .non .non .non .non rfl (by simp) (by simp only [List.length_append, List.length_cons, List.length_nil] at *; omega)
      refine ⟨y4, y5, y6, y7, y8, y9, ?_⟩
      have : (ps ++ [p]).length = (p :: ps).length := by simp
      rw [this] at hx
      exact hx
  obtain ⟨y4, y5, y6, y7, y8, y9, hf⟩ := hloop
  have hk := okRng_nat (n := X.length) (by omega)
  have er : rng 0 (X.length : Int) = (List.range' 0 X.length).map fun (i : Nat) => D.int (i : Int) := by rw [rng_nat, List.range_eq_range']
  refine run_rt [.val (ptsD X), .val (ptD g.s), .val (ptD g.e), .non, .non, .non, .non, .non, .non, .non, .non] t35 rfl rfl ?_
  have hb : d_law_clip.body = (.cons (.setM 3 (.lst .nil)) (.cons (.forS [4] (.rng1 (.prim .len (.cons (.slot 0) .nil))) lclipBody) (.cons (.frz 3) (.cons (.ret (.slot 3)) .nil)))) := rfl
  rw [hb]
  have hlen := len_ptsD X
  have h0 : (0 : Nat) ≤ line := Nat.zero_le _
  have e1 : ptsD (clip g X) = D.lst ((clip g X).map ptD) := rfl
  rw [e1]
  generalize (clip g X).map ptD = C at *
  generalize (X.length : Int) = LL at *
  simp [MP.fresh, h0, evS_forF, hlen, hk, er, hf]
end K28

/-! runs: what polygons share, the shoelace, is_left. -/
namespace K28
open PySem MP MG
theorem cr_sz {a b : P} (ha : Gd a) (hb : Gd b) : Sz 89 (cr a b) := by
  have qa := gd_sz ha
  have qb := gd_sz hb
  exact (qa.1.mul qb.2).sub (qa.2.mul qb.1)
def shareBody : Ss := (.cons (.ifS (.cmp .ne (.slot 1) (.lst .nil)) (.cons (.set 1 (.call 35 (.cons (.slot 1) (.cons (.idx (.slot 2) (.slot 3)) (.cons (.idx (.slot 2) (.bin .mod (.bin .add (.slot 3) (.cint 1)) (.prim .len (.cons (.slot 2) .nil)))) .nil))) [])) .nil) .nil) .nil)
theorem share_loop (N : Nat) (h : 4 ≤ N) {B : Nat} {Ls : List Ln} (C : Ctx2 B Ls) {p : P} {ps : List P} (x0 : SV) : ∀ (bs : List P) (a : P) (k : Nat) (Y : List P) (x3 : SV), (p :: (ps ++ [p])).drop k = a :: bs → k + bs.length = (p :: ps).length →
    (∀ g ∈ sidesW a bs, g ∈ Ls) → PX B Ls Y → Y.length + bs.length ≤ 60 → ∃ x3',
    forM (stepF (R N) 20000 [3] shareBody) ((List.range' k bs.length).map fun (i : Nat) => D.int (i : Int)) [x0, .val (ptsD Y), .val (ptsD (p :: ps)), x3] =
      some (.nx [x0, .val (ptsD (clipsL (sidesW a bs) Y)), .val (ptsD (p :: ps)), x3']) ∧ PX B Ls (clipsL (sidesW a bs) Y) ∧ (clipsL (sidesW a bs) Y).length ≤ Y.length + bs.length
  | [], a, k, Y, x3, _, _, _, hY, _ => ⟨x3, rfl, hY, Nat.le_refl _⟩
  | b :: bs, a, k, Y, x3, hd, hk, hg, hY, hl => by
    have hkl : k < (p :: ps).length := by simp only [List.length_cons] at *; omega
    obtain ⟨ia, ib⟩ := cyc_ix hd hkl
    have hgL : (⟨a, b⟩ : Ln) ∈ Ls := hg _ (by simp [sidesW])
    have gs := C.gs hgL
    have h35 : R N 35 [ptsD Y, ptD a, ptD b] = some (ptsD (clip ⟨a, b⟩ Y)) := lclip35 N h ⟨a, b⟩ Y (C.gd hY) gs.1 gs.2 (by omega)
    have hY' := hY.clip C.L (on_mem hgL)
    have hlen' := clip_len (g := ⟨a, b⟩) hY.un
    have i1 := ix_ptsD ia
    have i2 := ix_ptsD ib
    have hn0 : (((p :: ps).length : Nat) : Int) ≠ 0 := by omega
    have hmod : binD .mod (.int ((k : Int) + 1)) (.int ((p :: ps).length : Int)) = some (.int (((k + 1) % (p :: ps).length : Nat) : Int)) := by
      rw [bin_mod hn0]
      exact congrArg (fun z => some (D.int z)) (fmod_nat (k + 1) (p :: ps).length)
    have hlen := len_ptsD (p :: ps)
    have hne := ne_nil_pts Y
    have h0 : (0 : Nat) ≤ line := Nat.zero_le _
    have hst : stepF (R N) 20000 [3] shareBody (.int (k : Int)) [x0, .val (ptsD Y), .val (ptsD (p :: ps)), x3] = some (.nx [x0, .val (ptsD (clip ⟨a, b⟩ Y)), .val (ptsD (p :: ps)), .val (.int (k : Int))]) := by
      generalize (((k + 1) % (p :: ps).length : Nat) : Int) = O' at *
      generalize ((p :: ps).length : Int) = LL at *
      cases Y with
      | nil =>
        have e : clip ⟨a, b⟩ [] = [] := rfl
        rw [e]
        have hne' : cmpD .ne (ptsD []) (.lst []) = some false := hne
        simp [stepF, shareBody, h0, hne']
      | cons y ys =>
        have hne' : cmpD .ne (ptsD (y :: ys)) (.lst []) = some true := hne
        generalize clip ⟨a, b⟩ (y :: ys) = W at *
        simp [stepF, shareBody, h0, hne', i1, hlen, hmod, i2, h35]
    obtain ⟨x3', ih, ih2, ih3⟩ := share_loop N h C x0 bs b (k + 1) (clip ⟨a, b⟩ Y) (.val (.int (k : Int))) (drop_next hd) (by simp only [List.length_cons] at hk ⊢; omega) (fun g hg' => hg g (by simp [sidesW, hg'])) hY' (by simp only [List.length_cons] at hl; omega)
    have hl0 : (List.range' k (b :: bs).length).map (fun (i : Nat) => D.int (i : Int)) = .int (k : Int) :: (List.range' (k + 1) bs.length).map fun (i : Nat) => D.int (i : Int) := rfl
    refine ⟨x3', ?_, ih2, ?_⟩
    · rw [hl0, forM_cons, hst]; exact ih
    · show (clipsL (sidesW b bs) (clip ⟨a, b⟩ Y)).length ≤ _
      simp only [List.length_cons]
      omega
def sharedL (Qs : List (List P)) (X : List P) : List P := Qs.foldl (fun X Q => clipsL (sides Q) X) X
theorem cutD_tail (d : D) (ds : List D) : cutD (d :: ds) (some 1) none = ds := cut_from (d :: ds) (k := 1) (by simp)
theorem shared36 (N : Nat) (h : 5 ≤ N) {B : Nat} {Ls : List Ln} (C : Ctx2 B Ls) (X : List P) (Qs : List (List P)) (hX : PX B Ls X) (hQ : ∀ Q ∈ Qs, (∀ g ∈ sides Q, g ∈ Ls) ∧ Q.length ≤ 6) (hl : X.length ≤ 6) (hn : Qs.length ≤ 2) :
    R N 36 [polD (X :: Qs)] = some (fr (cyc cr (sharedL Qs X))) ∧ PX B Ls (sharedL Qs X) ∧ (sharedL Qs X).length ≤ 6 + 6 * Qs.length := by
  obtain ⟨N, rfl⟩ : ∃ k, N = k + 1 := ⟨N - 1, by omega⟩
  have l200 : (200 : Nat) < line := by decide
  have outer : ∀ (Rs : List (List P)) (Y : List P) (x2 x3 : SV), (∀ Q ∈ Rs, (∀ g ∈ sides Q, g ∈ Ls) ∧ Q.length ≤ 6) → PX B Ls Y → Y.length + 6 * Rs.length ≤ 50 → ∃ x2' x3',
      forM (stepF (R N) 20000 [2] (.cons (.forS [3] (.rng1 (.prim .len (.cons (.slot 2) .nil))) shareBody) .nil)) (Rs.map ptsD) [.val (polD (X :: Qs)), .val (ptsD Y), x2, x3] =
      some (.nx [.val (polD (X :: Qs)), .val (ptsD (sharedL Rs Y)), x2', x3']) ∧ PX B Ls (sharedL Rs Y) ∧ (sharedL Rs Y).length ≤ Y.length + 6 * Rs.length := by
    intro Rs
    induction Rs with
    | nil => intro Y x2 x3 _ hY _; exact ⟨x2, x3, rfl, hY, Nat.le_refl _⟩
    | cons Q Rs ih =>
      intro Y x2 x3 hR hY hlen
      have hq := hR Q (by simp)
      simp only [List.length_cons] at hlen
      have hk := okRng_nat (n := Q.length) (by omega)
      have er : rng 0 (Q.length : Int) = (List.range' 0 Q.length).map fun (i : Nat) => D.int (i : Int) := by rw [rng_nat, List.range_eq_range']
      have hlq := len_ptsD Q
      have inner : ∃ x3', forM (stepF (R N) 20000 [3] shareBody) ((List.range' 0 Q.length).map fun (i : Nat) => D.int (i : Int)) [.val (polD (X :: Qs)), .val (ptsD Y), .val (ptsD Q), x3] =
          some (.nx [.val (polD (X :: Qs)), .val (ptsD (clipsL (sides Q) Y)), .val (ptsD Q), x3']) ∧ PX B Ls (clipsL (sides Q) Y) ∧ (clipsL (sides Q) Y).length ≤ Y.length + 6 := by
        cases Q with
        | nil => exact ⟨x3, id rfl, hY, by show Y.length ≤ Y.length + 6; omega⟩
        | cons p ps =>
          obtain ⟨x3', hx, h1, h2⟩ := share_loop N (by omega) C (.val (polD (X :: Qs))) (p := p) (ps := ps) (ps ++ [p]) p 0 Y x3 rfl (by simp) hq.1 hY (by have := hq.2; simp only [List.length_append, List.length_cons, List.length_nil] at *; omega)
          refine ⟨x3', ?_, h1, ?_⟩
          · have : (ps ++ [p]).length = (p :: ps).length := by simp
            rw [this] at hx
            exact hx
          · have := hq.2
            simp only [List.length_append, List.length_cons, List.length_nil] at *
            exact Nat.le_trans h2 (by omega)
      obtain ⟨x3', hin, h1, h2⟩ := inner
      have hst : stepF (R N) 20000 [2] (.cons (.forS [3] (.rng1 (.prim .len (.cons (.slot 2) .nil))) shareBody) .nil) (ptsD Q) [.val (polD (X :: Qs)), .val (ptsD Y), x2, x3] =
          some (.nx [.val (polD (X :: Qs)), .val (ptsD (clipsL (sides Q) Y)), .val (ptsD Q), x3']) := by
        generalize (Q.length : Int) = LL at *
        generalize clipsL (sides Q) Y = W at *
        simp [stepF, evS_forF, hlq, hk, er, hin]
      obtain ⟨y2, y3, hy, k1, k2⟩ := ih (clipsL (sides Q) Y) (.val (ptsD Q)) x3' (fun Z hZ => hR Z (List.mem_cons_of_mem _ hZ)) h1 (by omega)
      refine ⟨y2, y3, by rw [List.map_cons, forM_cons, hst]; exact hy, k1, ?_⟩
      show (sharedL Rs (clipsL (sides Q) Y)).length ≤ _
      simp only [List.length_cons]
      omega
  obtain ⟨x2', x3', hf, h1, h2⟩ := outer Qs X .non .non hQ hX (by omega)
  have h34 := size34 N (by omega) (sharedL Qs X) (C.gd h1) (by omega)
  refine ⟨?_, h1, by omega⟩
  refine run_rt [.val (polD (X :: Qs)), .non, .non, .non] t36 rfl rfl ?_
  have i0 : ixD (polD (X :: Qs)) (.int 0) = some (ptsD X) := ix_lst (i := 0) rfl
  have hsl : evItF (R N) (.seq (.slc (.slot 0) (.some (.cint 1)) .none)) [.val (polD (X :: Qs)), .val (ptsD X), .non, .non] = some (Qs.map ptsD) := by
    have : evE (R N) (.slc (.slot 0) (.some (.cint 1)) .none) [.val (polD (X :: Qs)), .val (ptsD X), .non, .non] = some (.lst (Qs.map ptsD)) := by
      show some (D.lst (cutD (ptsD X :: Qs.map ptsD) (some 1) none)) = _
      rw [cutD_tail]
    rw [evItF_seq, this]; rfl
  have hb : d_law_shared.body = (.cons (.set 1 (.idx (.slot 0) (.cint 0))) (.cons (.forS [2] (.seq (.slc (.slot 0) (.some (.cint 1)) .none)) (.cons (.forS [3] (.rng1 (.prim .len (.cons (.slot 2) .nil))) shareBody) .nil)) (.cons (.ret (.call 34 (.cons (.slot 1) .nil) [])) .nil))) := rfl
  rw [hb]
  generalize sharedL Qs X = W at *
  simp [i0, -evItF_seq, evS_forF, hsl, hf, h34]
/-! ### the shoelace -/
def shoeBody : Ss := (.cons (.set 3 (.idx (.slot 0) (.slot 2))) (.cons (.set 4 (.idx (.slot 0) (.bin .mod (.bin .add (.slot 2) (.cint 1)) (.prim .len (.cons (.slot 0) .nil))))) (.cons (.set 1 (.call 23 (.cons (.slot 1) (.cons (.call 24 (.cons (.call 25 (.cons (.idx (.slot 3) (.cint 0)) (.cons (.idx (.slot 4) (.cint 1)) .nil)) []) (.cons (.call 25 (.cons (.idx (.slot 4) (.cint 0)) (.cons (.idx (.slot 3) (.cint 1)) .nil)) []) .nil)) []) .nil)) [])) .nil)))
theorem shoe_loop (N : Nat) (h : 2 ≤ N) {p : P} {ps : List P} (hX : ∀ v ∈ p :: ps, Gd v) : ∀ (bs : List P) (a : P) (k m : Nat) (acc : Rat) (x2 x3 x4 : SV), (p :: (ps ++ [p])).drop k = a :: bs → k + bs.length = (p :: ps).length → Sz (90 * m + 1) acc → m + bs.length ≤ 25 → ∃ x2' x3' x4',
    forM (stepF (R N) 20000 [2] shoeBody) ((List.range' k bs.length).map fun (i : Nat) => D.int (i : Int)) [.val (ptsD (p :: ps)), .val (fr acc), x2, x3, x4] =
      some (.nx [.val (ptsD (p :: ps)), .val (fr (acc + walk cr a bs)), x2', x3', x4'])
  | [], a, k, m, acc, x2, x3, x4, _, _, _, _ => ⟨x2, x3, x4, by
      have : acc + walk cr a [] = acc := by show acc + 0 = acc; grind
      rw [this]; rfl⟩
  | b :: bs, a, k, m, acc, x2, x3, x4, hd, hk, hs, hm => by
    have hkl : k < (p :: ps).length := by simp only [List.length_cons] at *; omega
    obtain ⟨ia, ib⟩ := cyc_ix hd hkl
    have ga := hX a (List.mem_of_getElem? ia)
    have gb := hX b (List.mem_of_getElem? ib)
    have O := osL N h
    have qa := gd_sz ga
    have qb := gd_sz gb
    have m1 := O.ti a.1 b.2 (qa.1.mono (by decide)) (qb.2.mono (by decide))
    have m2 := O.ti b.1 a.2 (qb.1.mono (by decide)) (qa.2.mono (by decide))
    have d := O.mi (a.1 * b.2) (b.1 * a.2) ((qa.1.mul qb.2).mono (by decide : 44 ≤ 2400)) ((qb.1.mul qa.2).mono (by decide : 44 ≤ 2400))
    have ec : a.1 * b.2 - b.1 * a.2 = cr a b := by unfold cr; grind
    rw [ec] at d
    have sc := cr_sz ga gb
    have pp := O.pl acc (cr a b) (hs.mono (by simp only [List.length_cons] at hm; omega)) (sc.mono (by decide))
    have i1 := ix_ptsD ia
    have i2 := ix_ptsD ib
    have hn0 : (((p :: ps).length : Nat) : Int) ≠ 0 := by omega
    have hmod : binD .mod (.int ((k : Int) + 1)) (.int ((p :: ps).length : Int)) = some (.int (((k + 1) % (p :: ps).length : Nat) : Int)) := by
      rw [bin_mod hn0]
      exact congrArg (fun z => some (D.int z)) (fmod_nat (k + 1) (p :: ps).length)
    have hlen := len_ptsD (p :: ps)
    have hst : stepF (R N) 20000 [2] shoeBody (.int (k : Int)) [.val (ptsD (p :: ps)), .val (fr acc), x2, x3, x4] = some (.nx [.val (ptsD (p :: ps)), .val (fr (acc + cr a b)), .val (.int (k : Int)), .val (ptD a), .val (ptD b)]) := by
      generalize (((k + 1) % (p :: ps).length : Nat) : Int) = O' at *
      generalize ((p :: ps).length : Int) = LL at *
      generalize cr a b = q at *
      simp [stepF, shoeBody, hlen, hmod, i1, i2, m1, m2, d, pp]
    obtain ⟨y2, y3, y4, ih⟩ := shoe_loop N h hX bs b (k + 1) (m + 1) (acc + cr a b) (.val (.int (k : Int))) (.val (ptD a)) (.val (ptD b)) (drop_next hd) (by simp only [List.length_cons] at hk ⊢; omega) ((hs.add sc).mono (by omega)) (by simp only [List.length_cons] at hm; omega)
    refine ⟨y2, y3, y4, ?_⟩
    have hl : (List.range' k (b :: bs).length).map (fun (i : Nat) => D.int (i : Int)) = .int (k : Int) :: (List.range' (k + 1) bs.length).map fun (i : Nat) => D.int (i : Int) := rfl
    have e : acc + walk cr a (b :: bs) = acc + cr a b + walk cr b bs := by show acc + (cr a b + walk cr b bs) = _; grind
    rw [hl, forM_cons, hst, e]
    exact ih
theorem shoe38 (N : Nat) (h : 3 ≤ N) (X : List P) (hX : ∀ v ∈ X, Gd v) (hl : X.length ≤ 24) : R N 38 [ptsD X] = some (fr (cyc cr X)) := by
  obtain ⟨N, rfl⟩ : ∃ k, N = k + 1 := ⟨N - 1, by omega⟩
  have l200 : (200 : Nat) < line := by decide
  have hloop : ∃ y2 y3 y4, forM (stepF (R N) 20000 [2] shoeBody) ((List.range' 0 X.length).map fun (i : Nat) => D.int (i : Int)) [.val (ptsD X), .val (fr 0), .non, .non, .non] =
      some (.nx [.val (ptsD X), .val (fr (cyc cr X)), y2, y3, y4]) := by
    cases X with
    | nil => exact ⟨.non, .non, .non, id rfl⟩
    | cons p ps =>
      obtain ⟨y2, y3, y4, hx⟩ := shoe_loop N (by omega) hX (ps ++ [p]) p 0 0 0 .non .non .non rfl (by simp) (sz_zero (by decide)) (by simp only [List.length_append, List.length_cons, List.length_nil] at *; omega)
      refine ⟨y2, y3, y4, ?_⟩
      have e1 : (ps ++ [p]).length = (p :: ps).length := by simp
      have e2 : (0 : Rat) + walk cr p (ps ++ [p]) = cyc cr (p :: ps) := by show 0 + walk cr p (ps ++ [p]) = walk cr p (ps ++ [p]); grind
      rw [e1, e2] at hx
      exact hx
  obtain ⟨y2, y3, y4, hf⟩ := hloop
  have hk := okRng_nat (n := X.length) (by omega)
  have er : rng 0 (X.length : Int) = (List.range' 0 X.length).map fun (i : Nat) => D.int (i : Int) := by rw [rng_nat, List.range_eq_range']
  refine run_rt [.val (ptsD X), .non, .non, .non, .non] t38 rfl rfl ?_
  have hb : d_law_shoelace.body = (.cons (.set 1 (.tup (.cons (.cint 0) (.cons (.cint 1) .nil)))) (.cons (.forS [2] (.rng1 (.prim .len (.cons (.slot 0) .nil))) shoeBody) (.cons (.ret (.slot 1)) .nil))) := rfl
  rw [hb]
  have hlen := len_ptsD X
  have h2 : (2 : Nat) ≤ line := by decide
  have z : fr 0 = D.tup [.int 0, .int 1] := rfl
  rw [z] at hf
  generalize cyc cr X = C at *
  generalize (X.length : Int) = LL at *
  simp [h2, evS_forF, hlen, hk, er, hf]
/-! ### is_left -/
theorem isleft41 (N : Nat) (h : 4 ≤ N) (g : Ln) (X : List P) (hX : ∀ v ∈ X, Gd v) (hs : Gd g.s) (he : Gd g.e) (hi : Ins g X) (hl : X = [] ∨ 2 < X.length) : R N 41 [ptsD X, ptD g.s, ptD g.e] = some (.bl true) := by
  obtain ⟨N, rfl⟩ : ∃ k, N = k + 1 := ⟨N - 1, by omega⟩
  have loop : ∀ (ys : List P) (x : SV), (∀ v ∈ ys, Gd v) → Ins g ys → ∃ x', forM (stepF (R N) 20000 [3] (.cons (.ifS (.cmp .lt (.idx (.call 29 (.cons (.slot 1) (.cons (.slot 2) (.cons (.slot 3) .nil))) []) (.cint 0)) (.cint 0)) (.cons (.ret (.cbl false)) .nil) .nil) .nil)) (ys.map ptD) [.val (ptsD X), .val (ptD g.s), .val (ptD g.e), x] =
      some (.nx [.val (ptsD X), .val (ptD g.s), .val (ptD g.e), x']) := by
    intro ys
    induction ys with
    | nil => intro x _ _; exact ⟨x, rfl⟩
    | cons y ys ih =>
      intro x hy hi
      have t1 : R N 29 [ptD g.s, ptD g.e, ptD y] = some (fr (g.at y)) := turn29 N (by omega) g.s g.e y hs he (hy y (by simp))
      have hp : ¬ (g.at y).num < 0 := by rw [num_lt]; have := hi y (by simp); grind
      have hst : stepF (R N) 20000 [3] (.cons (.ifS (.cmp .lt (.idx (.call 29 (.cons (.slot 1) (.cons (.slot 2) (.cons (.slot 3) .nil))) []) (.cint 0)) (.cint 0)) (.cons (.ret (.cbl false)) .nil) .nil) .nil) (ptD y) [.val (ptsD X), .val (ptD g.s), .val (ptD g.e), x] =
          some (.nx [.val (ptsD X), .val (ptD g.s), .val (ptD g.e), .val (ptD y)]) := by
        generalize g.at y = q at *
        simp [stepF, t1, hp]
      obtain ⟨x', hx⟩ := ih (.val (ptD y)) (fun v hv => hy v (List.mem_cons_of_mem _ hv)) (fun v hv => hi v (List.mem_cons_of_mem _ hv))
      exact ⟨x', by rw [List.map_cons, forM_cons, hst]; exact hx⟩
  obtain ⟨x', hf⟩ := loop X .non hX hi
  have he1 := eq_nil_pts X
  have hlen := len_ptsD X
  have h0 : (0 : Nat) ≤ line := Nat.zero_le _
  refine run_rt [.val (ptsD X), .val (ptD g.s), .val (ptD g.e), .non] t41 rfl rfl ?_
  cases hE : X.isEmpty with
  | true =>
    rw [hE] at he1
    simp [d_law_is_left, evS_forF, hf, h0, he1]
  | false =>
    rw [hE] at he1
    have h2 : 2 < X.length := by
      rcases hl with e | e
      · rw [e] at hE; cases hE
      · exact e
    have h2' : (2 : Int) < (X.length : Int) := by omega
    generalize (X.length : Int) = LL at *
    simp [d_law_is_left, evS_forF, hf, h0, he1, hlen, h2']
end K28

/-! runs: the law's hull. -/
namespace K28
open PySem MP MG
instance (a b c : P) : Decidable (box a b c) := inferInstanceAs (Decidable (_ ∧ _))
def SideB (S : List P) (a b : P) : Prop := ∀ c ∈ S, 0 ≤ turn a b c ∧ (turn a b c = 0 → box a b c)
instance (S : List P) (a b : P) : Decidable (SideB S a b) := inferInstanceAs (Decidable (∀ c ∈ S, _))
theorem tru_bl (b : Bool) : truD (.bl b) = some b := rfl
/-! ### other, least -/
def oth (p : P) (pts : List P) : P := match pts with
  | [] => p
  | q :: qs => if q ≠ p then q else oth p qs
theorem other32 (N : Nat) (h : 1 ≤ N) (p : P) (ps : List P) : R N 32 [ptsD (p :: ps)] = some (ptD (oth p (p :: ps))) := by
  obtain ⟨N, rfl⟩ : ∃ k, N = k + 1 := ⟨N - 1, by omega⟩
  have i0 : ixD (ptsD (p :: ps)) (.int 0) = some (ptD p) := ix_ptsD (k := 0) rfl
  have loop : ∀ (ys : List P) (x : SV), (∃ q, oth p ys = q ∧ q ≠ p ∧ forM (stepF (R N) 20000 [1] (.cons (.ifS (.cmp .ne (.slot 1) (.idx (.slot 0) (.cint 0))) (.cons (.ret (.slot 1)) .nil) .nil) .nil)) (ys.map ptD) [.val (ptsD (p :: ps)), x] = some (.rt (ptD q))) ∨
      (oth p ys = p ∧ ∃ x', forM (stepF (R N) 20000 [1] (.cons (.ifS (.cmp .ne (.slot 1) (.idx (.slot 0) (.cint 0))) (.cons (.ret (.slot 1)) .nil) .nil) .nil)) (ys.map ptD) [.val (ptsD (p :: ps)), x] = some (.nx [.val (ptsD (p :: ps)), x'])) := by
    intro ys
    induction ys with
    | nil => intro x; exact .inr ⟨rfl, x, rfl⟩
    | cons y ys ih =>
      intro x
      have hn := ne_ptD y p
      by_cases hy : y ≠ p
      · rw [decide_eq_true hy] at hn
        have hst : stepF (R N) 20000 [1] (.cons (.ifS (.cmp .ne (.slot 1) (.idx (.slot 0) (.cint 0))) (.cons (.ret (.slot 1)) .nil) .nil) .nil) (ptD y) [.val (ptsD (p :: ps)), x] = some (.rt (ptD y)) := by
          simp [stepF, i0, hn]
        refine .inl ⟨y, by unfold oth; rw [if_pos hy], hy, ?_⟩
        rw [List.map_cons, forM_cons, hst]
      · rw [decide_eq_false hy] at hn
        have hst : stepF (R N) 20000 [1] (.cons (.ifS (.cmp .ne (.slot 1) (.idx (.slot 0) (.cint 0))) (.cons (.ret (.slot 1)) .nil) .nil) .nil) (ptD y) [.val (ptsD (p :: ps)), x] = some (.nx [.val (ptsD (p :: ps)), .val (ptD y)]) := by
          simp [stepF, i0, hn]
        have eo : oth p (y :: ys) = oth p ys := by
          show (if y ≠ p then y else oth p ys) = _
          rw [if_neg hy]
        rw [List.map_cons, forM_cons, hst, eo]
        exact ih (.val (ptD y))
  refine run_rt [.val (ptsD (p :: ps)), .non] t32 rfl rfl ?_
  rcases loop (p :: ps) .non with ⟨q, e, _, hf⟩ | ⟨e, x', hf⟩
  · rw [e]
    simp only [List.map_cons] at hf
    simp [d_law_other, evS_forF, hf]
  · rw [e]
    simp only [List.map_cons] at hf
    simp [d_law_other, evS_forF, hf, i0]
theorem least_cond (a b : P) : decide (lt2 a b) = (decide (a.1 < b.1) || (decide (a.1 = b.1) && decide (a.2 < b.2))) := by
  unfold lt2
  by_cases c1 : a.1 < b.1 <;> by_cases c2 : a.1 = b.1 <;> by_cases c3 : a.2 < b.2 <;> simp [c1, c2, c3]
theorem least33 (N : Nat) (h : 2 ≤ N) (p : P) (ps : List P) (hg : ∀ q ∈ p :: ps, Gd q) : R N 33 [ptsD (p :: ps)] = some (ptD (least p (p :: ps))) := by
  obtain ⟨N, rfl⟩ : ∃ k, N = k + 1 := ⟨N - 1, by omega⟩
  have i0 : ixD (ptsD (p :: ps)) (.int 0) = some (ptD p) := ix_ptsD (k := 0) rfl
  have loop : ∀ (ys : List P) (b : P) (x : SV), (∀ q ∈ ys, Gd q) → Gd b → ∃ x', forM (stepF (R N) 20000 [2] (.cons (.ifS (.or (.cons (.tru (.call 27 (.cons (.idx (.slot 2) (.cint 0)) (.cons (.idx (.slot 1) (.cint 0)) .nil)) [])) (.cons (.and (.cons (.cmp .eq (.idx (.slot 2) (.cint 0)) (.idx (.slot 1) (.cint 0))) (.cons (.tru (.call 27 (.cons (.idx (.slot 2) (.cint 1)) (.cons (.idx (.slot 1) (.cint 1)) .nil)) [])) .nil))) .nil))) (.cons (.set 1 (.slot 2)) .nil) .nil) .nil)) (ys.map ptD) [.val (ptsD (p :: ps)), .val (ptD b), x] =
      some (.nx [.val (ptsD (p :: ps)), .val (ptD (least b ys)), x']) := by
    intro ys
    induction ys with
    | nil => intro b x _ _; exact ⟨x, rfl⟩
    | cons y ys ih =>
      intro b x hy hb
      have gy := hy y (by simp)
      have l1 := less27 N (by omega) y.1 b.1 ((gd_sz gy).1.mono (by decide)) ((gd_sz hb).1.mono (by decide))
      have l2 := less27 N (by omega) y.2 b.2 ((gd_sz gy).2.mono (by decide)) ((gd_sz hb).2.mono (by decide))
      have e := eq_fr y.1 b.1
      have lc := least_cond y b
      have hst : stepF (R N) 20000 [2] (.cons (.ifS (.or (.cons (.tru (.call 27 (.cons (.idx (.slot 2) (.cint 0)) (.cons (.idx (.slot 1) (.cint 0)) .nil)) [])) (.cons (.and (.cons (.cmp .eq (.idx (.slot 2) (.cint 0)) (.idx (.slot 1) (.cint 0))) (.cons (.tru (.call 27 (.cons (.idx (.slot 2) (.cint 1)) (.cons (.idx (.slot 1) (.cint 1)) .nil)) [])) .nil))) .nil))) (.cons (.set 1 (.slot 2)) .nil) .nil) .nil) (ptD y) [.val (ptsD (p :: ps)), .val (ptD b), x] =
          some (.nx [.val (ptsD (p :: ps)), .val (ptD (if lt2 y b then y else b)), .val (ptD y)]) := by
        by_cases hlt : lt2 y b
        · rw [if_pos hlt]
          rw [decide_eq_true hlt] at lc
          cases c1 : decide (y.1 < b.1) with
          | true => rw [c1] at l1; simp [stepF, l1, tru_bl]
          | false =>
            rw [c1] at l1 lc
            cases c2 : decide (y.1 = b.1) with
            | false => rw [c2] at lc; simp at lc
            | true =>
              rw [c2] at e lc
              cases c3 : decide (y.2 < b.2) with
              | false => rw [c3] at lc; simp at lc
              | true => rw [c3] at l2; simp [stepF, l1, tru_bl, e, l2]
        · rw [if_neg hlt]
          rw [decide_eq_false hlt] at lc
          cases c1 : decide (y.1 < b.1) with
          | true => rw [c1] at lc; simp at lc
          | false =>
            rw [c1] at l1 lc
            cases c2 : decide (y.1 = b.1) with
            | false => rw [c2] at e; simp [stepF, l1, tru_bl, e]
            | true =>
              rw [c2] at e lc
              cases c3 : decide (y.2 < b.2) with
              | true => rw [c3] at lc; simp at lc
              | false => rw [c3] at l2; simp [stepF, l1, tru_bl, e, l2]
      obtain ⟨x', hx⟩ := ih (if lt2 y b then y else b) (.val (ptD y)) (fun q hq => hy q (List.mem_cons_of_mem _ hq)) (by split <;> assumption)
      exact ⟨x', by rw [List.map_cons, forM_cons, hst]; exact hx⟩
  obtain ⟨x', hf⟩ := loop (p :: ps) p .non hg (hg p (by simp))
  refine run_rt [.val (ptsD (p :: ps)), .non, .non] t33 rfl rfl ?_
  simp only [List.map_cons] at hf
  simp [d_law_least, i0, evS_forF, hf]
/-! ### is_side -/
def boxBody : Ss := (.cons (.ifS (.and (.cons (.tru (.call 27 (.cons (.idx (.slot 3) (.slot 5)) (.cons (.idx (.slot 1) (.slot 5)) .nil)) [])) (.cons (.tru (.call 27 (.cons (.idx (.slot 3) (.slot 5)) (.cons (.idx (.slot 2) (.slot 5)) .nil)) [])) .nil))) (.cons (.ret (.cbl false)) .nil) .nil) (.cons (.ifS (.and (.cons (.tru (.call 27 (.cons (.idx (.slot 1) (.slot 5)) (.cons (.idx (.slot 3) (.slot 5)) .nil)) [])) (.cons (.tru (.call 27 (.cons (.idx (.slot 2) (.slot 5)) (.cons (.idx (.slot 3) (.slot 5)) .nil)) [])) .nil))) (.cons (.ret (.cbl false)) .nil) .nil) .nil))
theorem box_turn (N : Nat) (h : 1 ≤ N) (a b c : P) (i : Int) (x y z : Rat) (ic : ixD (ptD c) (.int i) = some (fr x)) (ia : ixD (ptD a) (.int i) = some (fr y)) (ib : ixD (ptD b) (.int i) = some (fr z)) (sx : Sz 22 x) (sy : Sz 22 y) (sz : Sz 22 z) (S x4 x5 : SV) :
    stepF (R N) 20000 [5] boxBody (.int i) [S, .val (ptD a), .val (ptD b), .val (ptD c), x4, x5] =
      some (if (x < y ∧ x < z) ∨ (y < x ∧ z < x) then .rt (.bl false) else .nx [S, .val (ptD a), .val (ptD b), .val (ptD c), x4, .val (.int i)]) := by
  have l1 := less27 N h x y (sx.mono (by decide)) (sy.mono (by decide))
  have l2 := less27 N h x z (sx.mono (by decide)) (sz.mono (by decide))
  have l3 := less27 N h y x (sy.mono (by decide)) (sx.mono (by decide))
  have l4 := less27 N h z x (sz.mono (by decide)) (sx.mono (by decide))
  by_cases c1 : x < y <;> by_cases c2 : x < z <;> by_cases c3 : y < x <;> by_cases c4 : z < x <;>
    simp [stepF, boxBody, ic, ia, ib, l1, l2, l3, l4, tru_bl, c1, c2, c3, c4]
theorem box_for (N : Nat) (h : 1 ≤ N) (a b c : P) (ha : Gd a) (hb : Gd b) (hc : Gd c) (S x4 x5 : SV) : ∃ x5',
    forM (stepF (R N) 20000 [5] boxBody) [.int 0, .int 1] [S, .val (ptD a), .val (ptD b), .val (ptD c), x4, x5] =
      some (if box a b c then .nx [S, .val (ptD a), .val (ptD b), .val (ptD c), x4, x5'] else .rt (.bl false)) := by
  have s1 := box_turn N h a b c 0 c.1 a.1 b.1 (by simp) (by simp) (by simp) (gd_sz hc).1 (gd_sz ha).1 (gd_sz hb).1 S x4 x5
  have s2 := box_turn N h a b c 1 c.2 a.2 b.2 (by simp) (by simp) (by simp) (gd_sz hc).2 (gd_sz ha).2 (gd_sz hb).2 S x4 (.val (.int 0))
  refine ⟨.val (.int 1), ?_⟩
  rw [forM_cons, s1]
  by_cases c1 : (c.1 < a.1 ∧ c.1 < b.1) ∨ (a.1 < c.1 ∧ b.1 < c.1)
  · rw [if_pos c1]
    have : ¬ box a b c := by unfold box; grind
    rw [if_neg this]
  · rw [if_neg c1]
    show forM (stepF (R N) 20000 [5] boxBody) [.int 1] _ = _
    rw [forM_cons, s2]
    by_cases c2 : (c.2 < a.2 ∧ c.2 < b.2) ∨ (a.2 < c.2 ∧ b.2 < c.2)
    · rw [if_pos c2]
      have : ¬ box a b c := by unfold box; grind
      rw [if_neg this]
    · rw [if_neg c2]
      have : box a b c := by unfold box; grind
      rw [if_pos this]
      rfl
def sideBody : Ss := (.cons (.set 4 (.call 29 (.cons (.slot 1) (.cons (.slot 2) (.cons (.slot 3) .nil))) [])) (.cons (.ifS (.cmp .lt (.idx (.slot 4) (.cint 0)) (.cint 0)) (.cons (.ret (.cbl false)) .nil) .nil) (.cons (.ifS (.cmp .eq (.idx (.slot 4) (.cint 0)) (.cint 0)) (.cons (.forS [5] (.rng1 (.cint 2)) boxBody) .nil) .nil) .nil)))
theorem side30 (N : Nat) (h : 4 ≤ N) (pts : List P) (a b : P) (hg : ∀ q ∈ pts, Gd q) (ha : Gd a) (hb : Gd b) : R N 30 [ptsD pts, ptD a, ptD b] = some (.bl (decide (SideB pts a b))) := by
  obtain ⟨N, rfl⟩ : ∃ k, N = k + 1 := ⟨N - 1, by omega⟩
  have hr : rng 0 2 = [.int 0, .int 1] := rfl
  have hk : okRng 2 = true := by decide
  have loop : ∀ (ys : List P) (x3 x4 x5 : SV), (∀ q ∈ ys, Gd q) → ∃ x3' x4' x5', forM (stepF (R N) 20000 [3] sideBody) (ys.map ptD) [.val (ptsD pts), .val (ptD a), .val (ptD b), x3, x4, x5] =
      some (if SideB ys a b then .nx [.val (ptsD pts), .val (ptD a), .val (ptD b), x3', x4', x5'] else .rt (.bl false)) := by
    intro ys
    induction ys with
    | nil => intro x3 x4 x5 _; exact ⟨x3, x4, x5, by rw [if_pos (show SideB [] a b from fun c hc => absurd hc (by simp))]; rfl⟩
    | cons y ys ih =>
      intro x3 x4 x5 hy
      have gy := hy y (by simp)
      have t := turn29 N (by omega) a b y ha hb gy
      obtain ⟨z5, hbx⟩ := box_for N (by omega) a b y ha hb gy (.val (ptsD pts)) (.val (fr (turn a b y))) x5
      have n1 := num_lt (turn a b y)
      have n2 : ((turn a b y).num = 0) = (turn a b y = 0) := propext Rat.num_eq_zero
      have sb : SideB (y :: ys) a b ↔ (0 ≤ turn a b y ∧ (turn a b y = 0 → box a b y)) ∧ SideB ys a b := by
        unfold SideB
        constructor
        · intro hh; exact ⟨hh y (by simp), fun c hc => hh c (List.mem_cons_of_mem _ hc)⟩
        · rintro ⟨h1, h2⟩ c hc
          rcases List.mem_cons.mp hc with rfl | hc
          · exact h1
          · exact h2 c hc
      by_cases c1 : turn a b y < 0
      · have hst : stepF (R N) 20000 [3] sideBody (ptD y) [.val (ptsD pts), .val (ptD a), .val (ptD b), x3, x4, x5] = some (.rt (.bl false)) := by
          generalize turn a b y = q at *
          simp [stepF, sideBody, t, n1, c1]
        have hn : ¬ SideB (y :: ys) a b := fun hh => by have := (sb.mp hh).1.1; grind
        refine ⟨x3, x4, x5, ?_⟩
        rw [if_neg hn, List.map_cons, forM_cons, hst]
      · by_cases c2 : turn a b y = 0
        · by_cases c3 : box a b y
          · rw [if_pos c3] at hbx
            have hst : stepF (R N) 20000 [3] sideBody (ptD y) [.val (ptsD pts), .val (ptD a), .val (ptD b), x3, x4, x5] = some (.nx [.val (ptsD pts), .val (ptD a), .val (ptD b), .val (ptD y), .val (fr (turn a b y)), z5]) := by
              generalize turn a b y = q at *
              simp [stepF, sideBody, t, n1, c1, n2, c2, evS_forF, hk, hr]
              rw [← c2, hbx]
            obtain ⟨y3, y4, y5, hx⟩ := ih (.val (ptD y)) (.val (fr (turn a b y))) z5 (fun q hq => hy q (List.mem_cons_of_mem _ hq))
            refine ⟨y3, y4, y5, ?_⟩
            rw [List.map_cons, forM_cons, hst]
            have he : SideB (y :: ys) a b ↔ SideB ys a b := by
              rw [sb]
              exact ⟨fun h => h.2, fun h => ⟨⟨by rw [c2]; exact Rat.le_refl, fun _ => c3⟩, h⟩⟩
            simp only [he]
            exact hx
          · rw [if_neg c3] at hbx
            have hst : stepF (R N) 20000 [3] sideBody (ptD y) [.val (ptsD pts), .val (ptD a), .val (ptD b), x3, x4, x5] = some (.rt (.bl false)) := by
              generalize turn a b y = q at *
              simp [stepF, sideBody, t, n1, c1, n2, c2, evS_forF, hk, hr]
              rw [← c2, hbx]
            have hn : ¬ SideB (y :: ys) a b := fun hh => c3 ((sb.mp hh).1.2 c2)
            refine ⟨x3, x4, x5, ?_⟩
            rw [if_neg hn, List.map_cons, forM_cons, hst]
        · have hst : stepF (R N) 20000 [3] sideBody (ptD y) [.val (ptsD pts), .val (ptD a), .val (ptD b), x3, x4, x5] = some (.nx [.val (ptsD pts), .val (ptD a), .val (ptD b), .val (ptD y), .val (fr (turn a b y)), x5]) := by
            generalize turn a b y = q at *
            simp [stepF, sideBody, t, n1, c1, n2, c2]
          obtain ⟨y3, y4, y5, hx⟩ := ih (.val (ptD y)) (.val (fr (turn a b y))) x5 (fun q hq => hy q (List.mem_cons_of_mem _ hq))
          refine ⟨y3, y4, y5, ?_⟩
          rw [List.map_cons, forM_cons, hst]
          have he : SideB (y :: ys) a b ↔ SideB ys a b := by
            rw [sb]
            exact ⟨fun h => h.2, fun h => ⟨⟨by grind, fun e => absurd e c2⟩, h⟩⟩
          simp only [he]
          exact hx
  obtain ⟨x3', x4', x5', hf⟩ := loop pts .non .non .non hg
  refine run_rt [.val (ptsD pts), .val (ptD a), .val (ptD b), .non, .non, .non] t30 rfl rfl ?_
  have hb0 : d_law_is_side.body = (.cons (.forS [3] (.seq (.slot 0)) sideBody) (.cons (.ret (.cbl true)) .nil)) := rfl
  rw [hb0]
  by_cases hS : SideB pts a b
  · rw [if_pos hS] at hf
    rw [decide_eq_true hS]
    simp [evS_forF, hf]
  · rw [if_neg hS] at hf
    rw [decide_eq_false hS]
    simp [evS_forF, hf]
end K28

/-! runs: the law's hull, with its dict. -/
namespace MP
open PySem MG
theorem getK_cons {α : Type} (p : NestedKey × α) (r : List (NestedKey × α)) (k : NestedKey) : getK (p :: r) k = if p.1 = k then some p.2 else getK r k := by
  by_cases h : p.1 = k <;> simp [getK, h]
theorem getK_map_ne {α : Type} {k j : NestedKey} (v : α) (h : j ≠ k) : ∀ kvs : List (NestedKey × α), getK (kvs.map fun p => if p.1 = k then (p.1, v) else p) j = getK kvs j
  | [] => rfl
  | p :: r => by
    rw [List.map_cons, getK_cons, getK_cons, getK_map_ne v h r]
    by_cases hk : p.1 = k
    · have : ¬ p.1 = j := fun e => h (by rw [← e, hk])
      rw [if_pos hk, if_neg this, if_neg this]
    · rw [if_neg hk]
theorem getK_map {α : Type} (k j : NestedKey) (v : α) : ∀ kvs : List (NestedKey × α), (getK kvs k).isSome = true → getK (kvs.map fun p => if p.1 = k then (p.1, v) else p) j = if j = k then some v else getK kvs j
  | [], h => by cases h
  | p :: r, h => by
    by_cases hj : j = k
    · subst hj
      rw [if_pos rfl, List.map_cons, getK_cons]
      by_cases hk : p.1 = j
      · rw [if_pos hk]
        show (if p.1 = j then some v else _) = _
        rw [if_pos hk]
      · rw [if_neg hk, if_neg hk]
        rw [getK_cons, if_neg hk] at h
        have := getK_map j j v r h
        rwa [if_pos rfl] at this
    · rw [if_neg hj, getK_map_ne v hj]
theorem getK_snoc {α : Type} (k j : NestedKey) (v : α) : ∀ kvs : List (NestedKey × α), getK kvs k = none → getK (kvs ++ [(k, v)]) j = if j = k then some v else getK kvs j
  | [], _ => by
    rw [List.nil_append, getK_cons]
    by_cases h : j = k
    · subst h; simp
    · rw [if_neg (fun e : k = j => h e.symm), if_neg h]
  | p :: r, h => by
    rw [getK_cons] at h
    by_cases hk : p.1 = k
    · rw [if_pos hk] at h; cases h
    · rw [if_neg hk] at h
      rw [List.cons_append, getK_cons, getK_snoc k j v r h, getK_cons]
      by_cases hj : p.1 = j
      · have : ¬ j = k := fun e => hk (by rw [hj, e])
        rw [if_pos hj, if_neg this, if_pos hj]
      · rw [if_neg hj]
        by_cases e : j = k
        · rw [if_pos e, if_pos e]
        · rw [if_neg e, if_neg e, if_neg hj]
theorem getK_setK {α : Type} (kvs : List (NestedKey × α)) (k j : NestedKey) (v : α) : getK (setK kvs k v) j = if j = k then some v else getK kvs j := by
  unfold setK
  by_cases hs : (getK kvs k).isSome = true
  · rw [if_pos hs]; exact getK_map k j v kvs hs
  · rw [if_neg hs]
    refine getK_snoc k j v kvs ?_
    cases h : getK kvs k with
    | none => rfl
    | some x => rw [h] at hs; exact absurd rfl hs
theorem setK_len {α : Type} (kvs : List (NestedKey × α)) (k : NestedKey) (v : α) : (setK kvs k v).length ≤ kvs.length + 1 := by
  unfold setK
  split <;> simp
def keyR (q : Rat) : NestedKey := .tup [.num q.num, .num (q.den : Int)]
def keyP (p : P) : NestedKey := .tup [keyR p.1, keyR p.2]
theorem keyT_ptD (p : P) : keyT (ptD p) = some (keyP p) := by
  have h1 : keyD (ptD p) = some (keyP p) := by simp [ptD, fr, keyD, keyDs, keyP, keyR]
  have h2 : (keyP p).depth ≤ 8 := by simp [keyP, keyR, NestedKey.depth, NestedKey.depthAll]
  unfold ptD at h1 ⊢
  simp only [keyT, h1, decide_eq_true h2, if_true]
theorem keyR_inj {a b : Rat} (h : keyR a = keyR b) : a = b := by
  unfold keyR at h
  simp only [NestedKey.tup.injEq, List.cons.injEq, NestedKey.num.injEq, and_true] at h
  exact Rat.ext h.1 (by omega)
theorem keyP_inj {a b : P} (h : keyP a = keyP b) : a = b := by
  unfold keyP at h
  simp only [NestedKey.tup.injEq, List.cons.injEq, and_true] at h
  exact Prod.ext (keyR_inj h.1) (keyR_inj h.2)
end MP

namespace K28
open PySem MP MG
/-! ### the law's hull -/
theorem comp_seq_if {Φ : Nat → List D → Option D} {ρ : Rho} {X : List P} {e : E} {t : T} {j : Nat} (hj : j < ρ.length) {p : P → Bool} (ha : evE Φ e ρ = some (ptsD X)) (hn : X.length ≤ line)
    (h : ∀ x ∈ X, evT Φ t (ρ.set j (.val (ptD x))) = some (p x)) : evE Φ (.comp (.slot j) [j] (.seq e) (.cons t .nil) [j]) ρ = some (ptsD (X.filter p)) := by
  rw [ev_comp]
  simp only [evIt_seq, ha, lst_ptsD]
  have : compM (stepC Φ (.slot j) [j] (.cons t .nil) [j] ρ) (X.map ptD) = some ((X.filter p).map ptD) := by
    clear ha hn
    induction X with
    | nil => rfl
    | cons x xs ih =>
      have h1 := h x (List.mem_cons_self ..)
      have h2 := ih fun y hy => h y (List.mem_cons_of_mem _ hy)
      have h3 : stepC Φ (.slot j) [j] (.cons t .nil) [j] ρ (ptD x) = some (if p x then some (ptD x) else none) := by
        have e1 : (ρ.set j (.val (ptD x)))[j]? = some (.val (ptD x)) := by simp [hj]
        simp only [stepC, wipeR_one, setTg_name, List.set_set, evTs_cons, h1]
        cases p x with
        | true => simp [e1]
        | false => rfl
      rw [List.map_cons]
      unfold compM
      rw [h3, h2]
      cases hp : p x <;> simp [hp]
  rw [this]
  have hl : (X.filter p).length ≤ X.length := List.length_filter_le ..
  simp only [List.length_map]
  rw [if_pos (decide_eq_true (by omega))]
  rfl
/-- what after knows -/
structure Aft (pts : List P) (done : P → P → Prop) (kvs : List (NestedKey × D)) : Prop where
  ok : ∀ a b, a ∈ pts → b ∈ pts → done a b → Side pts a b → getK kvs (keyP a) = some (ptD b)
theorem side_iff {pts : List P} {a b : P} : Side pts a b ↔ a ≠ b ∧ SideB pts a b := Iff.rfl
def aftIn : Ss := (.cons (.ifS (.and (.cons (.cmp .ne (.slot 2) (.slot 5)) (.cons (.tru (.call 30 (.cons (.slot 0) (.cons (.slot 2) (.cons (.slot 5) .nil))) [])) .nil))) (.cons (.dset 1 (.slot 2) (.slot 5)) .nil) .nil) .nil)
theorem aft_in (N : Nat) (h : 4 ≤ N) {pts : List P} (hg : ∀ q ∈ pts, Gd q) {a : P} (ha : a ∈ pts) (dn : P → P → Prop) : ∀ (ys seen : List P) (kvs : List (NestedKey × D)) (x3 x4 x5 x6 : SV), (∀ q ∈ ys, q ∈ pts) → kvs.length + ys.length < line → Aft pts (fun x y => dn x y ∨ (x = a ∧ y ∈ seen)) kvs →
    ∃ kvs' x5', forM (stepF (R N) 20000 [5] aftIn) (ys.map ptD) [.val (ptsD pts), .mdc kvs, .val (ptD a), x3, x4, x5, x6] = some (.nx [.val (ptsD pts), .mdc kvs', .val (ptD a), x3, x4, x5', x6]) ∧
      kvs'.length ≤ kvs.length + ys.length ∧ Aft pts (fun x y => dn x y ∨ (x = a ∧ y ∈ seen ++ ys)) kvs'
  | [], seen, kvs, x3, x4, x5, x6, _, _, hA => ⟨kvs, x5, rfl, by simp, by rw [List.append_nil]; exact hA⟩
  | b :: ys, seen, kvs, x3, x4, x5, x6, hy, hl, hA => by
    have hb := hy b (by simp)
    have hs := side30 N h pts a b hg (hg a ha) (hg b hb)
    have hn := ne_ptD a b
    have hk := keyT_ptD a
    have hkl : kvs.length < line := by omega
    have e0 : seen ++ b :: ys = (seen ++ [b]) ++ ys := by simp
    by_cases hS : Side pts a b
    · have hst : stepF (R N) 20000 [5] aftIn (ptD b) [.val (ptsD pts), .mdc kvs, .val (ptD a), x3, x4, x5, x6] = some (.nx [.val (ptsD pts), .mdc (setK kvs (keyP a) (ptD b)), .val (ptD a), x3, x4, .val (ptD b), x6]) := by
        rw [decide_eq_true hS.1] at hn
        rw [decide_eq_true (show SideB pts a b from hS.2)] at hs
        simp [stepF, aftIn, hn, hs, tru_bl, hk, hkl]
      have hA' : Aft pts (fun x y => dn x y ∨ (x = a ∧ y ∈ seen ++ [b])) (setK kvs (keyP a) (ptD b)) := by
        refine ⟨fun x y hx hyy hd hS' => ?_⟩
        rw [getK_setK]
        by_cases e : x = a
        · subst e
          rw [if_pos rfl]
          have := side_unique hS hS' hb hyy
          rw [this]
        · rw [if_neg fun e' => e (keyP_inj e')]
          refine hA.ok x y hx hyy ?_ hS'
          rcases hd with hd | ⟨e', _⟩
          · exact .inl hd
          · exact absurd e' e
      have hlen := setK_len kvs (keyP a) (ptD b)
      obtain ⟨kvs', x5', h1, h2, h3⟩ := aft_in N h hg ha dn ys (seen ++ [b]) (setK kvs (keyP a) (ptD b)) x3 x4 (.val (ptD b)) x6 (fun q hq => hy q (List.mem_cons_of_mem _ hq)) (by simp only [List.length_cons] at hl; omega) hA'
      refine ⟨kvs', x5', ?_, by simp only [List.length_cons]; omega, by rw [e0]; exact h3⟩
      rw [List.map_cons, forM_cons, hst]; exact h1
    · have hst : stepF (R N) 20000 [5] aftIn (ptD b) [.val (ptsD pts), .mdc kvs, .val (ptD a), x3, x4, x5, x6] = some (.nx [.val (ptsD pts), .mdc kvs, .val (ptD a), x3, x4, .val (ptD b), x6]) := by
        by_cases c1 : a ≠ b
        · have c2 : ¬ SideB pts a b := fun hh => hS ⟨c1, hh⟩
          rw [decide_eq_true c1] at hn
          rw [decide_eq_false c2] at hs
          simp [stepF, aftIn, hn, hs, tru_bl]
        · rw [decide_eq_false c1] at hn
          simp [stepF, aftIn, hn]
      have hA' : Aft pts (fun x y => dn x y ∨ (x = a ∧ y ∈ seen ++ [b])) kvs := by
        refine ⟨fun x y hx hyy hd hS' => hA.ok x y hx hyy ?_ hS'⟩
        rcases hd with hd | ⟨e, hm⟩
        · exact .inl hd
        · rcases List.mem_append.mp hm with hm | hm
          · exact .inr ⟨e, hm⟩
          · subst e
            rw [List.mem_singleton.mp hm] at hS'
            exact absurd hS' hS
      obtain ⟨kvs', x5', h1, h2, h3⟩ := aft_in N h hg ha dn ys (seen ++ [b]) kvs x3 x4 (.val (ptD b)) x6 (fun q hq => hy q (List.mem_cons_of_mem _ hq)) (by simp only [List.length_cons] at hl; omega) hA'
      refine ⟨kvs', x5', ?_, by simp only [List.length_cons]; omega, by rw [e0]; exact h3⟩
      rw [List.map_cons, forM_cons, hst]; exact h1
def aftOut : Ss := (.cons (.forS [5] (.seq (.slot 0)) aftIn) .nil)
theorem aft_out (N : Nat) (h : 4 ≤ N) {pts : List P} (hg : ∀ q ∈ pts, Gd q) (hpl : pts.length ≤ 64) : ∀ (as seen : List P) (kvs : List (NestedKey × D)) (x2 x3 x4 x5 x6 : SV), (∀ q ∈ as, q ∈ pts) → kvs.length + 64 * as.length ≤ 5000 → Aft pts (fun x _ => x ∈ seen) kvs →
    ∃ kvs' x2' x5', forM (stepF (R N) 20000 [2] aftOut) (as.map ptD) [.val (ptsD pts), .mdc kvs, x2, x3, x4, x5, x6] = some (.nx [.val (ptsD pts), .mdc kvs', x2', x3, x4, x5', x6]) ∧ Aft pts (fun x _ => x ∈ seen ++ as) kvs'
  | [], seen, kvs, x2, x3, x4, x5, x6, _, _, hA => ⟨kvs, x2, x5, rfl, by rw [List.append_nil]; exact hA⟩
  | a :: as, seen, kvs, x2, x3, x4, x5, x6, hy, hl, hA => by
    have l5 : (5000 : Nat) < line := by decide
    have ha := hy a (by simp)
    simp only [List.length_cons] at hl
    obtain ⟨kvs1, x5', h1, h2, h3⟩ := aft_in N h hg ha (fun x _ => x ∈ seen) pts [] kvs x3 x4 x5 x6 (fun q hq => hq) (by omega) ⟨fun x y hx hyy hd hS => hA.ok x y hx hyy (by
      rcases hd with hd | ⟨_, hm⟩
      · exact hd
      · cases hm) hS⟩
    have hst : stepF (R N) 20000 [2] aftOut (ptD a) [.val (ptsD pts), .mdc kvs, x2, x3, x4, x5, x6] = some (.nx [.val (ptsD pts), .mdc kvs1, .val (ptD a), x3, x4, x5', x6]) := by
      simp [stepF, aftOut, evS_forF, h1]
    obtain ⟨kvs', y2, y5, g1, g2⟩ := aft_out N h hg hpl as (seen ++ [a]) kvs1 (.val (ptD a)) x3 x4 x5' x6 (fun q hq => hy q (List.mem_cons_of_mem _ hq)) (by omega) ⟨fun x y hx hyy hd hS => h3.ok x y hx hyy (by
      rcases List.mem_append.mp hd with hd | hd
      · exact .inl hd
      · exact .inr ⟨List.mem_singleton.mp hd, by simpa using hyy⟩) hS⟩
    have e0 : seen ++ a :: as = (seen ++ [a]) ++ as := by simp
    exact ⟨kvs', y2, y5, by rw [List.map_cons, forM_cons, hst]; exact g1, by rw [e0]; exact g2⟩
def folBody : Ss := (.cons (.ifS (.cmp .eq (.dget 1 (.idx (.slot 3) (.neg (.cint 1)))) (.idx (.slot 3) (.cint 0))) (.cons .brk .nil) .nil) (.cons (.app 3 (.dget 1 (.idx (.slot 3) (.neg (.cint 1))))) .nil))
theorem fol_run (N : Nat) {nx : P → Option P} {kvs : List (NestedKey × D)} (hk : ∀ a b, nx a = some b → getK kvs (keyP a) = some (ptD b)) {p : P} (S x2 : SV) : ∀ (ds : List D) (cur : P) (pre : List P) (qs : List P) (x4 x5 x6 : SV), fol nx p ds.length cur = some qs → (pre ++ [cur]).head? = some p → pre.length + ds.length + 2 < line →
    ∃ x4', forM (stepF (R N) 20000 [4] folBody) ds [S, .mdc kvs, x2, .mls ((pre ++ [cur]).map ptD), x4, x5, x6] = some (.nx [S, .mdc kvs, x2, .mls ((pre ++ [cur] ++ qs).map ptD), x4', x5, x6])
  | [], cur, pre, qs, x4, x5, x6, hf, _, _ => by
    cases hf
    exact ⟨x4, by rw [List.append_nil]; rfl⟩
  | d :: ds, cur, pre, qs, x4, x5, x6, hf, hh, hl => by
    have hf' : (match nx cur with | none => none | some b => if b = p then some [] else (fol nx p ds.length b).map (b :: ·)) = some qs := hf
    cases hn : nx cur with
    | none => rw [hn] at hf'; cases hf'
    | some b =>
      rw [hn] at hf'
      have hg := hk cur b hn
      have i1 : ixD (.own ((pre ++ [cur]).map ptD)) (.int (-1)) = some (ptD cur) := by rw [List.map_append]; exact ixo_last (pre.map ptD) (ptD cur)
      have i0 : ixD (.own ((pre ++ [cur]).map ptD)) (.int 0) = some (ptD p) := ix_own (i := 0) (by
        rw [List.getElem?_map, ← List.head?_eq_getElem?, hh]; rfl)
      have kt := keyT_ptD cur
      have he := eq_ptD b p
      have hll : ((pre ++ [cur]).map ptD).length < line := by simp; simp only [List.length_cons] at hl; omega
      by_cases hb : b = p
      · have hq : qs = [] := by
          have : (if b = p then some [] else (fol nx p ds.length b).map (b :: ·)) = some qs := hf'
          rw [if_pos hb] at this
          exact (Option.some.inj this).symm
        subst hq
        rw [decide_eq_true hb] at he
        refine ⟨.val d, ?_⟩
        have hst : stepF (R N) 20000 [4] folBody d [S, .mdc kvs, x2, .mls ((pre ++ [cur]).map ptD), x4, x5, x6] = some (.bk [S, .mdc kvs, x2, .mls ((pre ++ [cur]).map ptD), .val d, x5, x6]) := by
          generalize (pre ++ [cur]).map ptD = Z at *
          simp [stepF, folBody, i1, kt, hg, i0, he]
        rw [forM_cons, hst, List.append_nil]
      · have hq : ∃ rs, fol nx p ds.length b = some rs ∧ qs = b :: rs := by
          have : (if b = p then some [] else (fol nx p ds.length b).map (b :: ·)) = some qs := hf'
          rw [if_neg hb] at this
          cases hr : fol nx p ds.length b with
          | none => rw [hr] at this; cases this
          | some rs => rw [hr] at this; exact ⟨rs, rfl, (Option.some.inj this).symm⟩
        obtain ⟨rs, hr, rfl⟩ := hq
        rw [decide_eq_false hb] at he
        have e1 : (pre ++ [cur]).map ptD ++ [ptD b] = ((pre ++ [cur]) ++ [b]).map ptD := by simp
        have hst : stepF (R N) 20000 [4] folBody d [S, .mdc kvs, x2, .mls ((pre ++ [cur]).map ptD), x4, x5, x6] = some (.nx [S, .mdc kvs, x2, .mls (((pre ++ [cur]) ++ [b]).map ptD), .val d, x5, x6]) := by
          rw [← e1]
          generalize (pre ++ [cur]).map ptD = Z at *
          simp [stepF, folBody, i1, kt, hg, i0, he, hll]
        obtain ⟨x4', hx⟩ := fol_run N hk S x2 ds b (pre ++ [cur]) rs (.val d) x5 x6 hr (by
          cases pre with
          | nil => exact hh
          | cons y ys => exact hh) (by rw [List.length_append]; simp only [List.length_cons, List.length_nil] at *; omega)
        refine ⟨x4', ?_⟩
        have e2 : pre ++ [cur] ++ b :: rs = (pre ++ [cur]) ++ [b] ++ rs := by simp
        rw [forM_cons, hst, e2]
        exact hx
theorem oth_ne {p : P} : ∀ {pts : List P}, oth p pts = p → ∀ q ∈ pts, q = p
  | [], _, q, hq => absurd hq (by simp)
  | x :: xs, h, q, hq => by
    have h' : (if x ≠ p then x else oth p xs) = p := h
    by_cases hx : x ≠ p
    · rw [if_pos hx] at h'; exact absurd h' hx
    · rw [if_neg hx] at h'
      rcases List.mem_cons.mp hq with rfl | hq
      · exact Classical.not_not.mp hx
      · exact oth_ne h' q hq
theorem lhull31 (N : Nat) (h : 6 ≤ N) (p : P) (ps : List P) (hg : ∀ q ∈ p :: ps, Gd q) (hl : (p :: ps).length ≤ 64) : R N 31 [ptsD (p :: ps)] = some (ptsD (hull (p :: ps))) := by
  obtain ⟨N, rfl⟩ : ∃ k, N = k + 1 := ⟨N - 1, by omega⟩
  have l64 : (200 : Nat) < line := by decide
  have i0 : ixD (ptsD (p :: ps)) (.int 0) = some (ptD p) := ix_ptsD (k := 0) rfl
  have ho := other32 N (by omega) p ps
  have goth : Gd (oth p (p :: ps)) := by
    have : ∀ ys : List P, (∀ q ∈ ys, Gd q) → Gd (oth p ys) := by
      intro ys
      induction ys with
      | nil => intro _; exact hg p (by simp)
      | cons y ys ih =>
        intro hy
        show Gd (if y ≠ p then y else oth p ys)
        split
        · exact hy y (by simp)
        · exact ih fun q hq => hy q (List.mem_cons_of_mem _ hq)
    exact this _ hg
  have hcomp : evE (R N) (.comp (.slot 6) [6] (.seq (.slot 0)) (.cons (.cmp .ne (.idx (.call 29 (.cons (.idx (.slot 0) (.cint 0)) (.cons (.call 32 (.cons (.slot 0) .nil) []) (.cons (.slot 6) .nil))) []) (.cint 0)) (.cint 0)) .nil) [6]) [.val (ptsD (p :: ps)), .non, .non, .non, .non, .non, .non] =
      some (ptsD ((p :: ps).filter fun c => decide (turn p (oth p (p :: ps)) c ≠ 0))) := by
    refine comp_seq_if (by simp) (by simp) (by omega) fun c hc => ?_
    have t := turn29 N (by omega) p (oth p (p :: ps)) c (hg p (by simp)) goth (hg c hc)
    have n2 : ((turn p (oth p (p :: ps)) c).num = 0) = (turn p (oth p (p :: ps)) c = 0) := propext Rat.num_eq_zero
    generalize oth p (p :: ps) = O at *
    generalize turn p O c = q at *
    simp [i0, ho, t, n2]
  have hnil := eq_nil_pts ((p :: ps).filter fun c => decide (turn p (oth p (p :: ps)) c ≠ 0))
  have h0 : (0 : Nat) ≤ line := Nat.zero_le _
  have hb : d_law_hull.body = (.cons (.ifS (.cmp .eq (.comp (.slot 6) [6] (.seq (.slot 0)) (.cons (.cmp .ne (.idx (.call 29 (.cons (.idx (.slot 0) (.cint 0)) (.cons (.call 32 (.cons (.slot 0) .nil) []) (.cons (.slot 6) .nil))) []) (.cint 0)) (.cint 0)) .nil) [6]) (.lst .nil)) (.cons (.ret (.lst .nil)) .nil) .nil) (.cons (.dnew 1) (.cons (.forS [2] (.seq (.slot 0)) aftOut) (.cons (.setM 3 (.lst (.cons (.call 33 (.cons (.slot 0) .nil) []) .nil))) (.cons (.forS [4] (.rng1 (.prim .len (.cons (.slot 0) .nil))) folBody) (.cons (.frz 3) (.cons (.ret (.slot 3)) .nil))))))) := rfl
  refine run_rt [.val (ptsD (p :: ps)), .non, .non, .non, .non, .non, .non] t31 rfl rfl ?_
  rw [hb]
  obtain ⟨hs1, hs2⟩ := hull_spec (p :: ps)
  cases hE : ((p :: ps).filter fun c => decide (turn p (oth p (p :: ps)) c ≠ 0)).isEmpty with
  | true =>
    rw [hE] at hnil
    have hall : ∀ c ∈ p :: ps, turn p (oth p (p :: ps)) c = 0 := by
      intro c hc
      refine Classical.byContradiction fun hn => ?_
      have hm : c ∈ (p :: ps).filter fun c => decide (turn p (oth p (p :: ps)) c ≠ 0) := List.mem_filter.mpr ⟨hc, decide_eq_true hn⟩
      have := List.isEmpty_iff.mp hE
      rw [this] at hm
      cases hm
    have hflat : Flat (p :: ps) := by
      by_cases e : p = oth p (p :: ps)
      · have := oth_ne e.symm
        intro a ha b hb c hc
        rw [this a ha, this b hb, turn_aab]
      · exact flat_of_line e hall
    rw [hs1 hflat]
    have en : ptsD [] = D.lst [] := rfl
    rw [en]
    generalize (p :: ps).filter (fun c => decide (turn p (oth p (p :: ps)) c ≠ 0)) = F at *
    simp [hcomp, h0, hnil]
  | false =>
    rw [hE] at hnil
    have hnf : ¬ Flat (p :: ps) := by
      intro hf
      have hm : ∃ c, c ∈ (p :: ps).filter fun c => decide (turn p (oth p (p :: ps)) c ≠ 0) := by
        cases hF : (p :: ps).filter fun c => decide (turn p (oth p (p :: ps)) c ≠ 0) with
        | nil => rw [hF] at hE; cases hE
        | cons c cs => exact ⟨c, by simp⟩
      obtain ⟨c, hm⟩ := hm
      obtain ⟨hc, hd⟩ := List.mem_filter.mp hm
      have ho : oth p (p :: ps) ∈ p :: ps := by
        have : ∀ ys : List P, (∀ q ∈ ys, q ∈ p :: ps) → oth p ys ∈ p :: ps := by
          intro ys
          induction ys with
          | nil => intro _; simp [oth]
          | cons y ys ih =>
            intro hy
            show (if y ≠ p then y else oth p ys) ∈ _
            split
            · exact hy y (by simp)
            · exact ih fun q hq => hy q (List.mem_cons_of_mem _ hq)
        exact this _ fun q hq => hq
      exact of_decide_eq_true hd (hf p (by simp) _ ho c hc)
    have H := hs2 hnf
    obtain ⟨kvs, x2, x5, ha1, ha2⟩ := aft_out N (by omega) hg hl (p :: ps) [] [] .non .non .non .non .non (fun q hq => hq) (by simp only [List.length_nil]; omega) ⟨fun x y _ _ hd _ => absurd hd (by simp)⟩
    have hl33 := least33 N (by omega) p ps hg
    obtain ⟨lm, lmin⟩ := least_ok ps p
    have lm' : least p (p :: ps) ∈ p :: ps := by
      have := (least_ok (p :: ps) p).1
      rcases List.mem_cons.mp this with e | e
      · rw [e]; simp
      · exact e
    have lmin' : ∀ c ∈ p :: ps, ¬ lt2 c (least p (p :: ps)) := fun c hc => (least_ok (p :: ps) p).2 c (List.mem_cons_of_mem _ hc)
    generalize least p (p :: ps) = m at *
    -- the next one
    open Classical in
    let nx : P → Option P := fun a => if hh : a ∈ p :: ps ∧ ∃ b, b ∈ p :: ps ∧ Side (p :: ps) a b then some hh.2.choose else none
    have hnx : ∀ a b, a ∈ p :: ps → b ∈ p :: ps → Side (p :: ps) a b → nx a = some b := by
      intro a b ha hb hS
      have hh : a ∈ p :: ps ∧ ∃ b, b ∈ p :: ps ∧ Side (p :: ps) a b := ⟨ha, b, hb, hS⟩
      have e : nx a = some hh.2.choose := by show (if hh : _ then _ else _) = _; rw [dif_pos hh]
      rw [e]
      have hc := hh.2.choose_spec
      exact congrArg some (side_unique hc.2 hS hc.1 hb)
    have hkk : ∀ a b, nx a = some b → getK kvs (keyP a) = some (ptD b) := by
      intro a b e
      by_cases hh : a ∈ p :: ps ∧ ∃ b, b ∈ p :: ps ∧ Side (p :: ps) a b
      · have e' : nx a = some hh.2.choose := by show (if hh : _ then _ else _) = _; rw [dif_pos hh]
        rw [e'] at e
        cases e
        have hc := hh.2.choose_spec
        exact ha2.ok a _ hh.1 hc.1 (by simpa using hh.1) hc.2
      · have e' : nx a = none := by show (if hh : _ then _ else _) = _; rw [dif_neg hh]
        rw [e'] at e; cases e
    obtain ⟨fs, hf1, hf2⟩ := hull_fol H hnx lm' lmin'
    obtain ⟨x4', hfr⟩ := fol_run N hkk (.val (ptsD (p :: ps))) x2 (rng 0 ((p :: ps).length : Int)) m [] fs .non x5 .non (by rw [len_rng]; simpa using hf2) rfl (by rw [len_rng]; simp only [List.length_nil]; omega)
    have hk := okRng_nat (n := (p :: ps).length) (by omega)
    have hlen := len_ptsD (p :: ps)
    have h1 : (1 : Nat) ≤ line := by decide
    have e1 : ptsD (hull (p :: ps)) = .lst (([] ++ [m] ++ fs).map ptD) := by rw [hf1]; rfl
    rw [e1]
    have e2 : ([] ++ [m]).map ptD = [ptD m] := rfl
    rw [e2] at hfr
    generalize ([] ++ [m] ++ fs).map ptD = RES at *
    generalize (p :: ps).filter (fun c => decide (turn p (oth p (p :: ps)) c ≠ 0)) = F at *
    generalize ((p :: ps).length : Int) = LL at *
    have lp := lst_ptsD (p :: ps)
    have pp := pure_ptsD (p :: ps)
    generalize (p :: ps).map ptD = PM at *
    generalize ptsD (p :: ps) = Z at *
    simp [hcomp, h0, hnil, evS_forF, lp, pp, ha1, MP.fresh, hl33, h1, hlen, hk, hfr]
end K28

/-! runs: points and polygons drawn. -/
namespace K28
open PySem MP MG
theorem t28 : tab[28]? = some d_law_middle := rfl
theorem t37 : tab[37]? = some d_law_points := rfl
theorem t39 : tab[39]? = some d_law_right_hull := rfl
theorem t40 : tab[40]? = some d_law_drawn := rfl
theorem half_n : (Rat.divInt 1 2).num = 1 := by decide +kernel
theorem half_d : (Rat.divInt 1 2).den = 2 := by decide +kernel
theorem half_fr : D.tup [.int 1, .int 2] = fr (Rat.divInt 1 2) := by unfold fr; rw [half_n, half_d]; rfl
theorem frac_in {a b : Int} {m : Nat} (ha : a.natAbs ≤ m) (hb : 1 ≤ b) (hb3 : b ≤ 3) : In 6 (6 * m) (Rat.divInt a b) := by
  have h := divInt_mul (n := a) (d := b) (by omega)
  obtain ⟨c, hc, hc6⟩ : ∃ c : Int, b * c = 6 ∧ c.natAbs ≤ 6 := by
    rcases (by omega : b = 1 ∨ b = 2 ∨ b = 3) with rfl | rfl | rfl
    · exact ⟨6, by decide, by decide⟩
    · exact ⟨3, by decide, by decide⟩
    · exact ⟨2, by decide, by decide⟩
  refine ⟨a * c, ?_, ?_⟩
  · have e : (((6 : Nat) : Int) : Rat) = (b : Rat) * (c : Rat) := by rw [← Rat.intCast_mul, hc]; rfl
    rw [e, Rat.intCast_mul, ← h]; grind
  · rw [Int.natAbs_mul, Nat.mul_comm]
    exact Nat.mul_le_mul hc6 ha
theorem half_in {D M : Nat} {a b : Rat} (ha : In D M a) (hb : In D M b) : In (2 * D) (2 * M) ((a + b) * Rat.divInt 1 2) := by
  have hs := ha.add hb
  obtain ⟨n, e, l⟩ := hs
  refine ⟨n, ?_, by omega⟩
  have h2 : Rat.divInt 1 2 * ((2 : Int) : Rat) = ((1 : Int) : Rat) := divInt_mul (by decide)
  have e2 : (((2 * D : Nat) : Int) : Rat) = ((2 : Int) : Rat) * ((D : Int) : Rat) := by rw [← Rat.intCast_mul]; rfl
  rw [e2, ← e]
  generalize Rat.divInt 1 2 = h at *
  generalize ((2 : Int) : Rat) = t at *
  have h3 : h * t = 1 := h2
  grind
/-- a point over D -/
def Pd (D M : Nat) (v : P) : Prop := In D M v.1 ∧ In D M v.2
theorem pd_gd {D M : Nat} {v : P} (h : Pd D M v) (h0 : 0 < D) (hD : D < 2 ^ 18) (hM : M < 2 ^ 22) : Gd v := ⟨D, M, h0, hD, hM, h.1, h.2⟩
theorem pd_up {D M : Nat} {v : P} (h : Pd D M v) : Pd (2 * D) (2 * M) v := ⟨h.1.scale, h.2.scale⟩
def lv (k : Nat) (v : P) : Prop := Pd (6 * 2 ^ k) (30 * 2 ^ k) v
theorem lv_up {k : Nat} {v : P} (h : lv k v) : lv (k + 1) v := by
  have := pd_up h
  unfold lv
  have e1 : 2 * (6 * 2 ^ k) = 6 * 2 ^ (k + 1) := by rw [Nat.pow_succ]; omega
  have e2 : 2 * (30 * 2 ^ k) = 30 * 2 ^ (k + 1) := by rw [Nat.pow_succ]; omega
  rw [e1, e2] at this
  exact this
theorem lv_gd {k : Nat} {v : P} (h : lv k v) (hk : k ≤ 10) : Gd v := by
  have : 2 ^ k ≤ 2 ^ 10 := Nat.pow_le_pow_right (by decide) hk
  have hp : 0 < 2 ^ k := Nat.pow_pos (by decide)
  exact pd_gd h (by omega) (by omega) (by omega)
theorem lv_base {k : Nat} {v : P} (h : Pd 6 30 v) : lv k v := by
  induction k with
  | zero => exact h
  | succ k ih => exact lv_up ih
theorem mk22' (N : Nat) (h : 1 ≤ N) {a b : Int} (h0 : b ≠ 0) (hb : b.natAbs < 16) : R N 22 [.int a, .int b] = some (fr (Rat.divInt a b)) :=
  mk22 N h a b h0 (Nat.lt_of_lt_of_le hb (show 2 ^ 4 ≤ 2 ^ 4900 from Nat.pow_le_pow_right (by decide) (by decide)))
theorem middle28 (N : Nat) (h : 3 ≤ N) (a b : Rat) (ha : Sz 900 a) (hb : Sz 900 b) : R N 28 [fr a, fr b] = some (fr ((a + b) * Rat.divInt 1 2)) := by
  obtain ⟨N, rfl⟩ : ∃ k, N = k + 1 := ⟨N - 1, by omega⟩
  have O := osL N (by omega)
  have h1 := O.pl a b (ha.mono (by decide)) (hb.mono (by decide))
  have s2 : Sz 2 (Rat.divInt 1 2) := ⟨by unfold Bi; rw [half_n]; decide, by rw [half_d]; decide⟩
  have h2 := O.ti (a + b) (Rat.divInt 1 2) ((ha.add hb).mono (by decide)) (s2.mono (by decide))
  rw [← half_fr] at h2
  have l2 : (2 : Nat) ≤ line := by decide
  refine run_rt [.val (fr a), .val (fr b)] t28 rfl rfl ?_
  generalize (a + b) * Rat.divInt 1 2 = q at *
  simp [d_law_middle, h1, h2, l2]
def ptBody : Ss := (.cons (.set 3 (.call 21 (.cons (.call 20 (.cons (.slot 0) (.cons (.bin .add (.cint 6) (.slot 2)) .nil)) []) (.cons (.cint 4) (.cons (.cint 1000) .nil))) [])) (.cons (.set 4 (.bin .add (.cint 1) (.bin .mod (.idx (.slot 3) (.cint 2)) (.cint 3)))) (.cons (.set 5 (.tup (.cons (.call 22 (.cons (.bin .sub (.bin .mod (.idx (.slot 3) (.cint 0)) (.cint 11)) (.cint 5)) (.cons (.slot 4) .nil)) []) (.cons (.call 22 (.cons (.bin .sub (.bin .mod (.idx (.slot 3) (.cint 1)) (.cint 11)) (.cint 5)) (.cons (.slot 4) .nil)) []) .nil)))) (.cons (.ifS (.and (.cons (.cmp .eq (.bin .mod (.idx (.slot 3) (.cint 3)) (.cint 7)) (.cint 0)) (.cons (.cmp .ne (.slot 1) (.lst .nil)) .nil))) (.cons (.set 5 (.idx (.slot 1) (.bin .mod (.bin .fdiv (.idx (.slot 3) (.cint 3)) (.cint 7)) (.prim .len (.cons (.slot 1) .nil))))) .nil) .nil) (.cons (.ifS (.and (.cons (.cmp .eq (.bin .mod (.idx (.slot 3) (.cint 3)) (.cint 7)) (.cint 1)) (.cons (.cmp .gt (.prim .len (.cons (.slot 1) .nil)) (.cint 1)) .nil))) (.cons (.set 5 (.prim .tuple (.cons (.comp (.call 28 (.cons (.idx (.idx (.slot 1) (.cint 0)) (.slot 6)) (.cons (.idx (.idx (.slot 1) (.cint 1)) (.slot 6)) .nil)) []) [6] (.rng1 (.cint 2)) .nil [6]) .nil))) .nil) .nil) (.cons (.app 1 (.slot 5)) .nil))))))
theorem pt_turn (N : Nat) (h : 3 ≤ N) {S : D} (hS : pure? S = some S) (hce : ∀ k : Nat, ∃ z : Int, R N 20 [S, .int (k : Int)] = some (.int z)) {F : List P} {k : Nat} (hF : F.length = k) (hk : k ≤ 9) (hv : ∀ v ∈ F, lv k v) (x2 x3 x4 x5 x6 : SV) : ∃ q x3' x4' x5', lv (k + 1) q ∧
    stepF (R N) 20000 [2] ptBody (.int (k : Int)) [.val S, .mls (F.map ptD), x2, x3, x4, x5, x6] = some (.nx [.val S, .mls ((F ++ [q]).map ptD), .val (.int (k : Int)), x3', x4', x5', x6]) := by
  obtain ⟨z, hz⟩ := hce (6 + k)
  have hz' : R N 20 [S, .int (6 + (k : Int))] = some (.int z) := hz
  obtain ⟨M, rfl⟩ : ∃ k, N = k + 1 := ⟨N - 1, by omega⟩
  obtain ⟨ds, hds, hd0⟩ := run_draw (wf := 20000) (N := M) t21 z (n := 4) (by decide)
  have hd' : R (M + 1) 21 [.int z, .int 4, .int 1000] = some (.lst (ds.map .int)) := hd0
  obtain ⟨a, b, c, d, rfl⟩ : ∃ a b c d, ds = [a, b, c, d] := by
    match ds, hds with
    | [a, b, c, d], _ => exact ⟨a, b, c, d, rfl⟩
  have fa := fmod_small (a := a) (m := 11) (by decide)
  have fb := fmod_small (a := b) (m := 11) (by decide)
  have fc := fmod_small (a := c) (m := 3) (by decide)
  have fd := fmod_small (a := d) (m := 7) (by decide)
  have i0 : ixD (.lst ([a, b, c, d].map .int)) (.int 0) = some (.int a) := ix_lst (i := 0) rfl
  have i1 : ixD (.lst ([a, b, c, d].map .int)) (.int 1) = some (.int b) := ix_lst (i := 1) rfl
  have i2 : ixD (.lst ([a, b, c, d].map .int)) (.int 2) = some (.int c) := ix_lst (i := 2) rfl
  have i3 : ixD (.lst ([a, b, c, d].map .int)) (.int 3) = some (.int d) := ix_lst (i := 3) rfl
  have hP : pure? (D.lst ([a, b, c, d].map D.int)) = some (D.lst ([a, b, c, d].map D.int)) := rfl
  have q1 := mk22' (M + 1) (by omega) (a := a.fmod 11 - 5) (b := 1 + c.fmod 3) (by omega) (by omega)
  have q2 := mk22' (M + 1) (by omega) (a := b.fmod 11 - 5) (b := 1 + c.fmod 3) (by omega) (by omega)
  have l2 : (2 : Nat) ≤ line := by decide
  have h0 : (0 : Nat) ≤ line := Nat.zero_le _
  have l64 : (64 : Nat) < line := by decide
  have hFl : F.length < line := by omega
  have base : lv (k + 1) (Rat.divInt (a.fmod 11 - 5) (1 + c.fmod 3), Rat.divInt (b.fmod 11 - 5) (1 + c.fmod 3)) := lv_base ⟨frac_in (m := 5) (by omega) (by omega) (by omega), frac_in (m := 5) (by omega) (by omega) (by omega)⟩
  have e0 : ∀ x y : Rat, D.tup [fr x, fr y] = ptD (x, y) := fun _ _ => rfl
  have okF : okDs 3 (F.map ptD) = true := okDs_of fun e he => by obtain ⟨v, _, rfl⟩ := List.mem_map.mp he; exact ok_ptD v 1
  have hne := ne_own okF (by decide)
  generalize D.lst ([a, b, c, d].map D.int) = DS at *
  generalize hBP : ((Rat.divInt (a.fmod 11 - 5) (1 + c.fmod 3), Rat.divInt (b.fmod 11 - 5) (1 + c.fmod 3)) : P) = bp at *
  have e0' : D.tup [fr (Rat.divInt (a.fmod 11 - 5) (1 + c.fmod 3)), fr (Rat.divInt (b.fmod 11 - 5) (1 + c.fmod 3))] = ptD bp := by rw [e0, hBP]
  generalize Rat.divInt (a.fmod 11 - 5) (1 + c.fmod 3) = r1 at *
  generalize Rat.divInt (b.fmod 11 - 5) (1 + c.fmod 3) = r2 at *
  by_cases c0 : d.fmod 7 = 0 ∧ F ≠ []
  · -- one of those drawn
    obtain ⟨c1, c2⟩ := c0
    have hpos : 0 < F.length := List.length_pos_iff.mpr c2
    have hi := fmod_small (a := d.fdiv 7) (m := (F.length : Int)) (by omega)
    obtain ⟨i, hi'⟩ : ∃ i : Nat, (d.fdiv 7).fmod (F.length : Int) = (i : Int) := ⟨((d.fdiv 7).fmod (F.length : Int)).toNat, by omega⟩
    have hil : i < F.length := by omega
    have hix : ixD (.own (F.map ptD)) (.int (i : Int)) = some (ptD F[i]) := ix_own (by simp [hil])
    have hne0 : ((F.length : Int)) ≠ 0 := by omega
    have hbm : binD .mod (.int (d.fdiv 7)) (.int (F.length : Int)) = some (.int (i : Int)) := by rw [bin_mod hne0, hi']
    have hisE : (F.map ptD).isEmpty = false := by rw [List.isEmpty_map]; simp [c2]
    have hlE : (F.map ptD).length = F.length := List.length_map ..
    refine ⟨F[i], .val DS, .val (.int (1 + c.fmod 3)), .val (ptD F[i]), lv_up (hv _ (List.getElem_mem hil)), ?_⟩
    have em : (F ++ [F[i]]).map ptD = F.map ptD ++ [ptD F[i]] := by simp
    rw [em]
    generalize F[i] = fi at *
    generalize F.map ptD = FM at *
    simp [stepF, ptBody, hS, hz', hd', hP, i0, i1, i2, i3, bin_mod, q1, q2, l2, h0, c1, hne, hisE, bin_fdiv (i := d) (j := 7) (by decide) (by decide), hlE, hbm, hix, hFl]
  · have test1 : ∀ x5 : SV, evT (R (M + 1)) (.and (.cons (.cmp .eq (.bin .mod (.idx (.slot 3) (.cint 3)) (.cint 7)) (.cint 0)) (.cons (.cmp .ne (.slot 1) (.lst .nil)) .nil))) [.val S, .mls (F.map ptD), .val (.int (k : Int)), .val DS, .val (.int (1 + c.fmod 3)), x5, x6] = some false := by
      intro x5
      by_cases c1 : d.fmod 7 = 0
      · have hE : F = [] := Classical.byContradiction fun hh => c0 ⟨c1, hh⟩
        have hisE : (F.map ptD).isEmpty = true := by rw [List.isEmpty_map]; simp [hE]
        generalize F.map ptD = FM at *
        simp [i3, bin_mod, c1, h0, hne, hisE]
      · simp [i3, bin_mod, c1]
    by_cases c3 : d.fmod 7 = 1 ∧ 1 < F.length
    · obtain ⟨c4, c5⟩ := c3
      obtain ⟨u, v, rest, rfl⟩ : ∃ u v rest, F = u :: v :: rest := by
        match F, c5 with
        | u :: v :: rest, _ => exact ⟨u, v, rest, rfl⟩
        | [u], h => simp at h
      have gu := lv_gd (hv u (by simp)) (by omega)
      have gv := lv_gd (hv v (by simp)) (by omega)
      have m1 := middle28 (M + 1) (by omega) u.1 v.1 ((gd_sz gu).1.mono (by decide)) ((gd_sz gv).1.mono (by decide))
      have m2 := middle28 (M + 1) (by omega) u.2 v.2 ((gd_sz gu).2.mono (by decide)) ((gd_sz gv).2.mono (by decide))
      have hmid : lv (k + 1) ((u.1 + v.1) * Rat.divInt 1 2, (u.2 + v.2) * Rat.divInt 1 2) := by
        have hu := hv u (by simp)
        have hvv := hv v (by simp)
        have e1 : 2 * (6 * 2 ^ k) = 6 * 2 ^ (k + 1) := by rw [Nat.pow_succ]; omega
        have e2 : 2 * (30 * 2 ^ k) = 30 * 2 ^ (k + 1) := by rw [Nat.pow_succ]; omega
        unfold lv
        rw [← e1, ← e2]
        exact ⟨half_in hu.1 hvv.1, half_in hu.2 hvv.2⟩
      have j0 : ixD (.own ((u :: v :: rest).map ptD)) (.int 0) = some (ptD u) := ix_own (i := 0) rfl
      have j1 : ixD (.own ((u :: v :: rest).map ptD)) (.int 1) = some (ptD v) := ix_own (i := 1) rfl
      have hc : ∀ x5 : SV, evE (R (M + 1)) (.comp (.call 28 (.cons (.idx (.idx (.slot 1) (.cint 0)) (.slot 6)) (.cons (.idx (.idx (.slot 1) (.cint 1)) (.slot 6)) .nil)) []) [6] (.rng1 (.cint 2)) .nil [6]) [.val S, .mls ((u :: v :: rest).map ptD), .val (.int (k : Int)), .val DS, .val (.int (1 + c.fmod 3)), x5, x6] =
          some (.lst [fr ((u.1 + v.1) * Rat.divInt 1 2), fr ((u.2 + v.2) * Rat.divInt 1 2)]) := by
        intro x5
        rw [comp_range (n := 2) (g := fun i => fr (if i = 0 then (u.1 + v.1) * Rat.divInt 1 2 else (u.2 + v.2) * Rat.divInt 1 2)) rfl (by decide)]
        · rfl
        · intro i hi
          generalize (u :: v :: rest).map ptD = FM at *
          rcases (by omega : i = 0 ∨ i = 1) with rfl | rfl
          · simp [j0, j1, m1]
          · simp [j0, j1, m2]
      have ht : ∀ xs : List D, primD .tuple [.lst xs] = some (.tup xs) := fun _ => rfl
      have hlE : ((u :: v :: rest).map ptD).length = (u :: v :: rest).length := List.length_map ..
      have c5' : (1 : Int) < ((u :: v :: rest).length : Int) := by omega
      refine ⟨((u.1 + v.1) * Rat.divInt 1 2, (u.2 + v.2) * Rat.divInt 1 2), .val DS, .val (.int (1 + c.fmod 3)), .val (ptD ((u.1 + v.1) * Rat.divInt 1 2, (u.2 + v.2) * Rat.divInt 1 2)), hmid, ?_⟩
      have em : (u :: v :: rest ++ [((u.1 + v.1) * Rat.divInt 1 2, (u.2 + v.2) * Rat.divInt 1 2)]).map ptD = (u :: v :: rest).map ptD ++ [ptD ((u.1 + v.1) * Rat.divInt 1 2, (u.2 + v.2) * Rat.divInt 1 2)] := by simp
      rw [em]
      have ep := e0 ((u.1 + v.1) * Rat.divInt 1 2) ((u.2 + v.2) * Rat.divInt 1 2)
      generalize (u.1 + v.1) * Rat.divInt 1 2 = w1 at *
      generalize (u.2 + v.2) * Rat.divInt 1 2 = w2 at *
      generalize (u :: v :: rest).map ptD = FM at *
      generalize ((u :: v :: rest).length : Nat) = LN at *
      have test2 : ∀ x5 : SV, evT (R (M + 1)) (.and (.cons (.cmp .eq (.bin .mod (.idx (.slot 3) (.cint 3)) (.cint 7)) (.cint 1)) (.cons (.cmp .gt (.prim .len (.cons (.slot 1) .nil)) (.cint 1)) .nil))) [.val S, .mls FM, .val (.int (k : Int)), .val DS, .val (.int (1 + c.fmod 3)), x5, x6] = some true := by
        intro x5
        simp [i3, bin_mod, c4, hlE, c5']
      simp [stepF, ptBody, hS, hz', hd', hP, i0, i1, i2, bin_mod, q1, q2, l2, -evT_and, test1, test2, hc, ht, ep, hlE, hFl]
    · have test2 : ∀ x5 : SV, evT (R (M + 1)) (.and (.cons (.cmp .eq (.bin .mod (.idx (.slot 3) (.cint 3)) (.cint 7)) (.cint 1)) (.cons (.cmp .gt (.prim .len (.cons (.slot 1) .nil)) (.cint 1)) .nil))) [.val S, .mls (F.map ptD), .val (.int (k : Int)), .val DS, .val (.int (1 + c.fmod 3)), x5, x6] = some false := by
        intro x5
        have hlE : (F.map ptD).length = F.length := List.length_map ..
        by_cases c4 : d.fmod 7 = 1
        · have c5 : ¬ (1 : Int) < (F.length : Int) := by
            have : ¬ 1 < F.length := fun hh => c3 ⟨c4, hh⟩
            omega
          generalize F.map ptD = FM at *
          simp [i3, bin_mod, c4, hlE, c5]
        · simp [i3, bin_mod, c4]
      refine ⟨bp, .val DS, .val (.int (1 + c.fmod 3)), .val (ptD bp), base, ?_⟩
      have em : (F ++ [bp]).map ptD = F.map ptD ++ [ptD bp] := by simp
      rw [em]
      have hlE : (F.map ptD).length = F.length := List.length_map ..
      generalize F.map ptD = FM at *
      simp [stepF, ptBody, hS, hz', hd', hP, i0, i1, i2, bin_mod, q1, q2, l2, -evT_and, test1, test2, e0', hlE, hFl]
end K28

/-! runs: points, the right hull, polygons drawn. -/
namespace K28
open PySem MP MG
theorem cell20 (N : Nat) (h : 1 ≤ N) {ns : List Int} (k : Nat) : ∃ z : Int, R N 20 [.lst (ns.map .int), .int (k : Int)] = some (.int z) := by
  obtain ⟨M, rfl⟩ : ∃ k, N = k + 1 := ⟨N - 1, by omega⟩
  exact run_cell (wf := 20000) (N := M) t20
theorem draw21 (N : Nat) (h : 1 ≤ N) (z : Int) {n : Nat} (hn : n ≤ 64) : ∃ ds : List Int, ds.length = n ∧ R N 21 [.int z, .int (n : Int), .int 1000] = some (.lst (ds.map .int)) := by
  obtain ⟨M, rfl⟩ : ∃ k, N = k + 1 := ⟨N - 1, by omega⟩
  exact run_draw (wf := 20000) (N := M) t21 z hn
theorem points37 (N : Nat) (h : 4 ≤ N) (ns : List Int) : ∃ pts : List P, R N 37 [.lst (ns.map .int)] = some (ptsD pts) ∧ (∀ v ∈ pts, Gd v) ∧ pts.length ≤ 10 := by
  obtain ⟨N, rfl⟩ : ∃ k, N = k + 1 := ⟨N - 1, by omega⟩
  obtain ⟨z5, hz5⟩ := cell20 N (by omega) (ns := ns) 5
  have hz5' : R N 20 [.lst (ns.map .int), .int 5] = some (.int z5) := hz5
  have f5 := fmod_small (a := z5) (m := 11) (by decide)
  obtain ⟨n, hn⟩ : ∃ n : Nat, z5.fmod 11 = (n : Int) := ⟨(z5.fmod 11).toNat, by omega⟩
  have hn10 : n ≤ 10 := by omega
  have loop : ∀ (m k : Nat) (F : List P) (x2 x3 x4 x5 x6 : SV), k + m = n → F.length = k → (∀ v ∈ F, lv k v) → ∃ (G : List P) (x2' x3' x4' x5' : SV), G.length = n ∧ (∀ v ∈ G, lv n v) ∧
      forM (stepF (R N) 20000 [2] ptBody) ((List.range' k m).map fun (i : Nat) => D.int (i : Int)) [.val (.lst (ns.map .int)), .mls (F.map ptD), x2, x3, x4, x5, x6] = some (.nx [.val (.lst (ns.map .int)), .mls (G.map ptD), x2', x3', x4', x5', x6]) := by
    intro m
    induction m with
    | zero => intro k F x2 x3 x4 x5 x6 e hF hv; exact ⟨F, x2, x3, x4, x5, by omega, by rw [← e]; exact hv, rfl⟩
    | succ m ih =>
      intro k F x2 x3 x4 x5 x6 e hF hv
      obtain ⟨q, x3', x4', x5', hq, hst⟩ := pt_turn N (by omega) (S := .lst (ns.map .int)) rfl (fun k => cell20 N (by omega) k) hF (by omega) hv x2 x3 x4 x5 x6
      obtain ⟨G, y2, y3, y4, y5, g1, g2, g3⟩ := ih (k + 1) (F ++ [q]) (.val (.int (k : Int))) x3' x4' x5' x6 (by omega) (by simp; omega) (fun v hv' => by
        rcases List.mem_append.mp hv' with hv' | hv'
        · exact lv_up (hv v hv')
        · rw [List.mem_singleton.mp hv']; exact hq)
      have hl : (List.range' k (m + 1)).map (fun (i : Nat) => D.int (i : Int)) = .int (k : Int) :: (List.range' (k + 1) m).map fun (i : Nat) => D.int (i : Int) := rfl
      exact ⟨G, y2, y3, y4, y5, g1, g2, by rw [hl, forM_cons, hst]; exact g3⟩
  obtain ⟨G, x2', x3', x4', x5', g1, g2, g3⟩ := loop n 0 [] .non .non .non .non .non (by omega) rfl (fun v hv => absurd hv (by simp))
  refine ⟨G, ?_, fun v hv => lv_gd (g2 v hv) hn10, by omega⟩
  refine run_rt [.val (.lst (ns.map .int)), .non, .non, .non, .non, .non, .non] t37 rfl rfl ?_
  have hb : d_law_points.body = (.cons (.setM 1 (.lst .nil)) (.cons (.forS [2] (.rng1 (.bin .mod (.prim .int (.cons (.call 20 (.cons (.slot 0) (.cons (.cint 5) .nil)) []) .nil)) (.cint 11))) ptBody) (.cons (.frz 1) (.cons (.ret (.slot 1)) .nil)))) := rfl
  rw [hb]
  have h0 : (0 : Nat) ≤ line := Nat.zero_le _
  have hk := okRng_nat (n := n) (Nat.le_trans hn10 (by decide))
  have er : rng 0 (n : Int) = (List.range' 0 n).map fun (i : Nat) => D.int (i : Int) := by rw [rng_nat, List.range_eq_range']
  rw [List.map_nil] at g3
  have e1 : ptsD G = .lst (G.map ptD) := rfl
  rw [e1]
  generalize G.map ptD = GM at *
  generalize ns.map D.int = NS at *
  simp [MP.fresh, h0, evS_forF, hz5', bin_mod, hn, hk, er, g3]
/-! ### the right hull -/
theorem hull_len {pts : List P} : (hull pts).length ≤ pts.length ∧ ∀ v ∈ hull pts, v ∈ pts := by
  obtain ⟨h1, h2⟩ := hull_spec pts
  by_cases hf : Flat pts
  · rw [h1 hf]; exact ⟨Nat.zero_le _, fun v hv => absurd hv (by simp)⟩
  · have H := h2 hf
    exact ⟨nodup_len H.nd H.mem, H.mem⟩
theorem right39 (N : Nat) (h : 7 ≤ N) (pts : List P) (hg : ∀ v ∈ pts, Gd v) (hl : pts.length ≤ 10) : R N 39 [ptsD pts] = some (.bl true) := by
  obtain ⟨N, rfl⟩ : ∃ k, N = k + 1 := ⟨N - 1, by omega⟩
  have hh := hull12 N (by omega) pts hg (by omega)
  obtain ⟨q1, q2⟩ := hull_len (pts := pts)
  have gh : ∀ v ∈ hull pts, Gd v := fun v hv => hg v (q2 v hv)
  have hs := size13 N (by omega) (hull pts) gh (by omega)
  have hsh := shoe38 N (by omega) (hull pts) gh (by omega)
  have hne0 := ne_nil_pts pts
  have hnilh := eq_nil_pts (hull pts)
  have n1 := ne_ptsD_same pts
  have n2 := ne_ptsD_same (hull pts)
  have h0 : (0 : Nat) ≤ line := Nat.zero_le _
  have l100 : (100 : Nat) ≤ line := by decide
  have e1 : D.lst (pts.map ptD) = ptsD pts := rfl
  have e2 : D.lst ((hull pts).map ptD) = ptsD (hull pts) := rfl
  have en : ptsD [] = D.lst [] := rfl
  refine run_rt [.val (ptsD pts), .non, .non, .non] t39 rfl rfl ?_
  -- the first two rows: due is the hull
  have start : evSs (R N) 20000 (.cons (.set 1 (.lst .nil)) (.cons (.ifS (.cmp .ne (.slot 0) (.lst .nil)) (.cons (.set 1 (.call 31 (.cons (.slot 0) .nil) [])) .nil) .nil) .nil)) [.val (ptsD pts), .non, .non, .non] = some (.nx [.val (ptsD pts), .val (ptsD (hull pts)), .non, .non]) := by
    cases pts with
    | nil =>
      have hn' : cmpD .ne (ptsD []) (.lst []) = some false := hne0
      have eh : hull [] = [] := rfl
      rw [eh, en]
      rw [en] at hn'
      simp [h0, hn']
    | cons p ps =>
      have hn' : cmpD .ne (ptsD (p :: ps)) (.lst []) = some true := hne0
      have h31 := lhull31 N (by omega) p ps hg (by omega)
      generalize hull (p :: ps) = H at *
      simp [h0, hn', h31]
  have hb : d_law_right_hull.body = (.cons (.set 1 (.lst .nil)) (.cons (.ifS (.cmp .ne (.slot 0) (.lst .nil)) (.cons (.set 1 (.call 31 (.cons (.slot 0) .nil) [])) .nil) .nil) (.cons (.set 2 (.prim .list (.cons (.slot 0) .nil))) (.cons (.set 3 (.call 12 (.cons (.slot 2) .nil) [])) (.cons (.ifS (.or (.cons (.cmp .ne (.slot 2) (.slot 0)) (.cons (.cmp .ne (.slot 3) (.slot 1)) .nil))) (.cons (.ret (.cbl false)) .nil) .nil) (.cons (.ifS (.cmp .eq (.slot 1) (.lst .nil)) (.cons (.ret (.cbl true)) .nil) .nil) (.cons (.ret (.andV (.cons (.cmp .eq (.call 13 (.cons (.prim .list (.cons (.slot 1) .nil)) .nil) []) (.call 38 (.cons (.slot 1) .nil) [])) (.cons (.cmp .eq (.call 13 (.cons (.bin .add (.slc (.slot 1) (.some (.cint 1)) .none) (.slc (.slot 1) .none (.some (.cint 1)))) .nil) []) (.call 38 (.cons (.slot 1) .nil) [])) .nil)))) .nil))))))) := rfl
  rw [hb]
  have join : ∀ (a b : S) (rest : Ss) (ρ ρ' : Rho), evSs (R N) 20000 (.cons a (.cons b .nil)) ρ = some (.nx ρ') → evSs (R N) 20000 (.cons a (.cons b rest)) ρ = evSs (R N) 20000 rest ρ' := by
    intro a b rest ρ ρ' hh
    rw [evSs_cons] at hh ⊢
    cases ha : evS (R N) 20000 a ρ with
    | none => rw [ha] at hh; cases hh
    | some f =>
      rw [ha] at hh
      cases f with
      | nx ρ1 =>
        have hh' : evSs (R N) 20000 (.cons b .nil) ρ1 = some (.nx ρ') := hh
        show evSs (R N) 20000 (.cons b rest) ρ1 = _
        rw [evSs_cons] at hh' ⊢
        cases hb' : evS (R N) 20000 b ρ1 with
        | none => rw [hb'] at hh'; cases hh'
        | some f =>
          rw [hb'] at hh'
          cases f with
          | nx ρ2 => cases hh'; rfl
          | rt d => cases hh'
          | bk ρ2 => cases hh'
          | ct ρ2 => cases hh'
      | rt d => cases hh
      | bk ρ1 => cases hh
      | ct ρ1 => cases hh
  rw [join _ _ _ _ _ start]
  have lp : lst? (ptsD pts) = some (pts.map ptD) := rfl
  have lh : lst? (ptsD (hull pts)) = some ((hull pts).map ptD) := rfl
  cases hE : (hull pts).isEmpty with
  | true =>
    rw [hE] at hnilh
    generalize hull pts = H at *
    simp [lp, e1, hh, n1, n2, hnilh, h0]
  | false =>
    rw [hE] at hnilh
    obtain ⟨p, ps, hps⟩ : ∃ p ps, hull pts = p :: ps := by
      cases hH : hull pts with
      | nil => rw [hH] at hE; cases hE
      | cons p ps => exact ⟨p, ps, rfl⟩
    have grot : ∀ v ∈ ps ++ [p], Gd v := by
      intro v hv
      refine gh v ?_
      rw [hps]
      rcases List.mem_append.mp hv with hv | hv
      · exact List.mem_cons_of_mem _ hv
      · rw [List.mem_singleton.mp hv]; simp
    have lrot : (ps ++ [p]).length ≤ 26 := by rw [hps] at q1; simp only [List.length_cons, List.length_append, List.length_nil] at *; omega
    have hs2 := size13 N (by omega) (ps ++ [p]) grot lrot
    rw [cyc_rot p ps, ← hps] at hs2
    have heq : cmpD .eq (fr (cyc cr (hull pts))) (fr (cyc cr (hull pts))) = some true := eq_same (ok_fr _ 0) (by decide)
    have hcut : ∀ (x0 x2 x3 : SV), evE (R N) (.bin .add (.slc (.slot 1) (.some (.cint 1)) .none) (.slc (.slot 1) .none (.some (.cint 1)))) [x0, .val (ptsD (hull pts)), x2, x3] = some (ptsD (ps ++ [p])) := by
      intro x0 x2 x3
      have c1 : cutD ((p :: ps).map ptD) (some 1) none = ps.map ptD := cutD_tail (ptD p) (ps.map ptD)
      have c2 : cutD ((p :: ps).map ptD) none (some 1) = [ptD p] := cut_to ((p :: ps).map ptD) (k := 1) (by simp)
      have f1 : evE (R N) (.slc (.slot 1) (.some (.cint 1)) .none) [x0, .val (ptsD (hull pts)), x2, x3] = some (.lst (ps.map ptD)) := by
        rw [hps]
        show some (D.lst (cutD ((p :: ps).map ptD) (some 1) none)) = _
        rw [c1]
      have f2 : evE (R N) (.slc (.slot 1) .none (.some (.cint 1))) [x0, .val (ptsD (hull pts)), x2, x3] = some (.lst [ptD p]) := by
        rw [hps]
        show some (D.lst (cutD ((p :: ps).map ptD) none (some 1))) = _
        rw [c2]
      have hcat : catD (.lst (ps.map ptD)) (.lst [ptD p]) = some ((ps ++ [p]).map ptD) := by
        show (if decide ((ps.map ptD).length + 1 ≤ line) = true then _ else _) = _
        rw [if_pos (decide_eq_true (by rw [List.length_map]; simp only [List.length_append, List.length_cons, List.length_nil] at lrot; omega))]
        simp
      rw [ev_bin, f1, f2]
      show (match BOp.add, catD (.lst (ps.map ptD)) (.lst [ptD p]) with | .add, some ds => some (D.lst ds) | op, _ => _) = _
      rw [hcat]; rfl
    generalize hull pts = H at *
    generalize ps ++ [p] = ROT at *
    generalize cyc cr H = q at *
    simp [lp, lh, e1, e2, hh, n1, n2, hnilh, h0, hs, hsh, heq, -ev_bin, hcut, hs2]
/-! ### polygons -/
structure Dr (f : List P) : Prop where
  poly : Poly f
  len : f.length ≤ 6
  bs : ∀ v ∈ f, Bs 36 v
instance (S : List P) (a b : P) : Decidable (Side S a b) := inferInstanceAs (Decidable (_ ∧ SideB S a b))
def tri : List P := [(0, 0), (3, 0), (1, 2)]
theorem tri_dr : Dr tri := by
  refine ⟨⟨⟨(0, 0), [(3, 0), (1, 2)], rfl, ?_, ?_, ?_, trivial⟩, by decide +kernel⟩, by decide, ?_⟩
  · show Side tri (0, 0) (3, 0); decide +kernel
  · show Side tri (3, 0) (1, 2); decide +kernel
  · show Side tri (1, 2) (0, 0); decide +kernel
  · intro v hv
    have i : ∀ z : Int, z.natAbs ≤ 6 → In 6 36 (z : Rat) := fun z hz => ⟨z * 6, by rw [Rat.intCast_mul]; rfl, by rw [Int.natAbs_mul]; exact Nat.mul_le_mul hz (Nat.le_refl 6)⟩
    simp only [tri, List.mem_cons, List.not_mem_nil, or_false] at hv
    rcases hv with rfl | rfl | rfl
    · exact ⟨i 0 (by decide), i 0 (by decide)⟩
    · exact ⟨i 3 (by decide), i 0 (by decide)⟩
    · exact ⟨i 1 (by decide), i 2 (by decide)⟩
theorem tri_D : ptsD tri = .lst [.tup [.tup [.int 0, .int 1], .tup [.int 0, .int 1]], .tup [.tup [.int 3, .int 1], .tup [.int 0, .int 1]], .tup [.tup [.int 1, .int 1], .tup [.int 2, .int 1]]] := by
  have f : ∀ z : Int, fr (z : Rat) = .tup [.int z, .int 1] := fun z => (fr_int z).symm
  have a0 : fr 0 = .tup [.int 0, .int 1] := f 0
  have a1 : fr 1 = .tup [.int 1, .int 1] := f 1
  have a2 : fr 2 = .tup [.int 2, .int 1] := f 2
  have a3 : fr 3 = .tup [.int 3, .int 1] := f 3
  unfold ptsD tri
  simp only [List.map_cons, List.map_nil, ptD, a0, a1, a2, a3]
def drBody : Ss := (.cons (.set 5 (.bin .add (.cint 1) (.bin .mod (.bin .fdiv (.idx (.slot 1) (.bin .mul (.cint 2) (.slot 3))) (.cint 13)) (.cint 3)))) (.cons (.app 2 (.tup (.cons (.call 22 (.cons (.bin .sub (.bin .mod (.idx (.slot 1) (.bin .mul (.cint 2) (.slot 3))) (.cint 13)) (.cint 6)) (.cons (.slot 5) .nil)) []) (.cons (.call 22 (.cons (.bin .sub (.bin .mod (.idx (.slot 1) (.bin .add (.bin .mul (.cint 2) (.slot 3)) (.cint 1))) (.cint 13)) (.cint 6)) (.cons (.slot 5) .nil)) []) .nil)))) .nil))
theorem dr_turn (N : Nat) (h : 1 ≤ N) {ds : List Int} (hds : ds.length = 13) {k : Nat} (hk : k ≤ 5) (F : List P) (hF : F.length ≤ 10) (Z x3 x4 x5 : SV) : ∃ q x5', Bs 36 q ∧
    stepF (R N) 20000 [3] drBody (.int (k : Int)) [Z, .val (.lst (ds.map .int)), .mls (F.map ptD), x3, x4, x5] = some (.nx [Z, .val (.lst (ds.map .int)), .mls ((F ++ [q]).map ptD), .val (.int (k : Int)), x4, x5']) := by
  have g : ∀ i : Nat, i < 13 → ixD (.lst (ds.map .int)) (.int (i : Int)) = some (.int (ds.getD i 0)) := fun i hi => ix_lst (by
    rw [List.getElem?_map, List.getElem?_eq_getElem (by omega), List.getD_eq_getElem?_getD, List.getElem?_eq_getElem (by omega)]; rfl)
  have i1 : ixD (.lst (ds.map .int)) (.int (2 * (k : Int))) = some (.int (ds.getD (2 * k) 0)) := g (2 * k) (by omega)
  have i2 : ixD (.lst (ds.map .int)) (.int (2 * (k : Int) + 1)) = some (.int (ds.getD (2 * k + 1) 0)) := g (2 * k + 1) (by omega)
  generalize ds.getD (2 * k) 0 = a at *
  generalize ds.getD (2 * k + 1) 0 = b at *
  have fa := fmod_small (a := a) (m := 13) (by decide)
  have fb := fmod_small (a := b) (m := 13) (by decide)
  have fc := fmod_small (a := a.fdiv 13) (m := 3) (by decide)
  have q1 := mk22' N h (a := a.fmod 13 - 6) (b := 1 + (a.fdiv 13).fmod 3) (by omega) (by omega)
  have q2 := mk22' N h (a := b.fmod 13 - 6) (b := 1 + (a.fdiv 13).fmod 3) (by omega) (by omega)
  have hm : mulOk 2 (k : Int) = true := mulOk_of (show Bi 2 2 by unfold Bi; decide) (show Bi 7 (k : Int) by unfold Bi; omega) (by decide)
  have l2 : (2 : Nat) ≤ line := by decide
  have l64 : (64 : Nat) < line := by decide
  have hFl : F.length < line := by omega
  refine ⟨(Rat.divInt (a.fmod 13 - 6) (1 + (a.fdiv 13).fmod 3), Rat.divInt (b.fmod 13 - 6) (1 + (a.fdiv 13).fmod 3)), .val (.int (1 + (a.fdiv 13).fmod 3)), ⟨frac_in (m := 6) (by omega) (by omega) (by omega), frac_in (m := 6) (by omega) (by omega) (by omega)⟩, ?_⟩
  have em : ∀ q : P, (F ++ [q]).map ptD = F.map ptD ++ [ptD q] := fun q => by simp
  rw [em]
  have e0 : ∀ x y : Rat, D.tup [fr x, fr y] = ptD (x, y) := fun _ _ => rfl
  generalize D.lst (ds.map .int) = DS at *
  generalize Rat.divInt (a.fmod 13 - 6) (1 + (a.fdiv 13).fmod 3) = r1 at *
  generalize Rat.divInt (b.fmod 13 - 6) (1 + (a.fdiv 13).fmod 3) = r2 at *
  simp [stepF, drBody, bin_mul hm, i1, i2, bin_mod, bin_fdiv (i := a) (j := 13) (by decide) (by decide), q1, q2, l2, hFl, e0]
theorem drawn40 (N : Nat) (h : 7 ≤ N) (z : Int) : ∃ f : List P, R N 40 [.int z] = some (ptsD f) ∧ Dr f := by
  obtain ⟨N, rfl⟩ : ∃ k, N = k + 1 := ⟨N - 1, by omega⟩
  obtain ⟨ds, hds, hd⟩ := draw21 N (by omega) z (n := 13) (by decide)
  have hd' : R N 21 [.int z, .int 13, .int 1000] = some (.lst (ds.map .int)) := hd
  have i12 : ixD (.lst (ds.map .int)) (.int 12) = some (.int (ds.getD 12 0)) := ix_lst (i := 12) (by
    rw [List.getElem?_map, List.getElem?_eq_getElem (by omega), List.getD_eq_getElem?_getD, List.getElem?_eq_getElem (by omega)]; rfl)
  generalize ds.getD 12 0 = c at *
  have fc := fmod_small (a := c) (m := 4) (by decide)
  obtain ⟨n, hn⟩ : ∃ n : Nat, 3 + c.fmod 4 = (n : Int) := ⟨(3 + c.fmod 4).toNat, by omega⟩
  have hn6 : n ≤ 6 := by omega
  have hn1 : 1 ≤ n := by omega
  have loop : ∀ (m k : Nat) (F : List P) (x3 x4 x5 : SV), k + m = n → F.length = k → (∀ v ∈ F, Bs 36 v) → ∃ (G : List P) (x3' x5' : SV), G.length = n ∧ (∀ v ∈ G, Bs 36 v) ∧
      forM (stepF (R N) 20000 [3] drBody) ((List.range' k m).map fun (i : Nat) => D.int (i : Int)) [.val (.int z), .val (.lst (ds.map .int)), .mls (F.map ptD), x3, x4, x5] = some (.nx [.val (.int z), .val (.lst (ds.map .int)), .mls (G.map ptD), x3', x4, x5']) := by
    intro m
    induction m with
    | zero => intro k F x3 x4 x5 e hF hv; exact ⟨F, x3, x5, by omega, hv, rfl⟩
    | succ m ih =>
      intro k F x3 x4 x5 e hF hv
      obtain ⟨q, x5', hq, hst⟩ := dr_turn N (by omega) hds (k := k) (by omega) F (by omega) (.val (.int z)) x3 x4 x5
      obtain ⟨G, y3, y5, g1, g2, g3⟩ := ih (k + 1) (F ++ [q]) (.val (.int (k : Int))) x4 x5' (by omega) (by simp; omega) (fun v hv' => by
        rcases List.mem_append.mp hv' with hv' | hv'
        · exact hv v hv'
        · rw [List.mem_singleton.mp hv']; exact hq)
      have hl : (List.range' k (m + 1)).map (fun (i : Nat) => D.int (i : Int)) = .int (k : Int) :: (List.range' (k + 1) m).map fun (i : Nat) => D.int (i : Int) := rfl
      exact ⟨G, y3, y5, g1, g2, by rw [hl, forM_cons, hst]; exact g3⟩
  obtain ⟨G, x3', x5', g1, g2, g3⟩ := loop n 0 [] .non .non .non (by omega) rfl (fun v hv => absurd hv (by simp))
  have gG : ∀ v ∈ G, Gd v := fun v hv => ⟨6, 36, by decide, by decide, by decide, (g2 v hv).1, (g2 v hv).2⟩
  obtain ⟨p, ps, hG⟩ : ∃ p ps, G = p :: ps := by
    cases G with
    | nil => simp at g1; omega
    | cons p ps => exact ⟨p, ps, rfl⟩
  have h31 : R N 31 [ptsD G] = some (ptsD (hull G)) := by
    rw [hG] at gG ⊢
    exact lhull31 N (by omega) p ps gG (by rw [hG] at g1; omega)
  have hnil := eq_nil_pts (hull G)
  have h0 : (0 : Nat) ≤ line := Nat.zero_le _
  have l2 : (2 : Nat) ≤ line := by decide
  have l3 : (3 : Nat) ≤ line := by decide
  have hk := okRng_nat (n := n) (Nat.le_trans hn6 (by decide))
  have er : rng 0 (n : Int) = (List.range' 0 n).map fun (i : Nat) => D.int (i : Int) := by rw [rng_nat, List.range_eq_range']
  rw [List.map_nil] at g3
  have hb : d_law_drawn.body = (.cons (.set 1 (.call 21 (.cons (.slot 0) (.cons (.cint 13) (.cons (.cint 1000) .nil))) [])) (.cons (.setM 2 (.lst .nil)) (.cons (.forS [3] (.rng1 (.bin .add (.cint 3) (.bin .mod (.idx (.slot 1) (.cint 12)) (.cint 4)))) drBody) (.cons (.frz 2) (.cons (.set 4 (.call 31 (.cons (.slot 2) .nil) [])) (.cons (.ifS (.cmp .eq (.slot 4) (.lst .nil)) (.cons (.set 4 (.lst (.cons (.tup (.cons (.tup (.cons (.cint 0) (.cons (.cint 1) .nil))) (.cons (.tup (.cons (.cint 0) (.cons (.cint 1) .nil))) .nil))) (.cons (.tup (.cons (.tup (.cons (.cint 3) (.cons (.cint 1) .nil))) (.cons (.tup (.cons (.cint 0) (.cons (.cint 1) .nil))) .nil))) (.cons (.tup (.cons (.tup (.cons (.cint 1) (.cons (.cint 1) .nil))) (.cons (.tup (.cons (.cint 2) (.cons (.cint 1) .nil))) .nil))) .nil))))) .nil) .nil) (.cons (.ret (.slot 4)) .nil))))))) := rfl
  have e1 : D.lst (G.map ptD) = ptsD G := rfl
  have hPd : pure? (D.lst (ds.map D.int)) = some (D.lst (ds.map D.int)) := rfl
  have hspec := hull_spec G
  cases hE : (hull G).isEmpty with
  | true =>
    rw [hE] at hnil
    refine ⟨tri, run_rt [.val (.int z), .non, .non, .non, .non, .non] t40 rfl rfl ?_, tri_dr⟩
    rw [hb, tri_D]
    generalize hull G = H at *
    generalize D.lst (ds.map D.int) = DS at *
    generalize G.map ptD = GM at *
    simp [hd', hPd, MP.fresh, h0, evS_forF, i12, bin_mod, hn, hk, er, g3, e1, h31, hnil, l2, l3]
  | false =>
    rw [hE] at hnil
    have hnf : ¬ Flat G := fun hf => by rw [hspec.1 hf] at hE; cases hE
    have H := hspec.2 hnf
    have hl := hull_len (pts := G)
    refine ⟨hull G, run_rt [.val (.int z), .non, .non, .non, .non, .non] t40 rfl rfl ?_, ⟨H.poly, by omega, fun v hv => g2 v (hl.2 v hv)⟩⟩
    rw [hb]
    generalize hull G = H' at *
    generalize D.lst (ds.map D.int) = DS at *
    generalize G.map ptD = GM at *
    simp [hd', hPd, MP.fresh, h0, evS_forF, i12, bin_mod, hn, hk, er, g3, e1, h31, hnil]
end K28

/-! the law's run. -/
namespace K28
open PySem MP MG
theorem t42 : tab[42]? = some d_law := rfl
theorem sidesW_mem : ∀ (bs : List P) (a : P), ∀ g ∈ sidesW a bs, g.s ∈ a :: bs ∧ g.e ∈ a :: bs
  | [], _, g, hg => absurd hg (by simp [sidesW])
  | b :: bs, a, g, hg => by
    rcases List.mem_cons.mp (show g ∈ (⟨a, b⟩ : Ln) :: sidesW b bs from hg) with rfl | hg
    · exact ⟨by simp, by simp⟩
    · have := sidesW_mem bs b g hg
      exact ⟨List.mem_cons_of_mem _ this.1, List.mem_cons_of_mem _ this.2⟩
theorem sides_mem {X : List P} : ∀ g ∈ sides X, g.s ∈ X ∧ g.e ∈ X := by
  cases X with
  | nil => intro g hg; exact absurd hg (by simp [sides])
  | cons p ps =>
    intro g hg
    have := sidesW_mem (ps ++ [p]) p g hg
    have f : ∀ q, q ∈ p :: (ps ++ [p]) → q ∈ p :: ps := fun q hq => by
      rcases List.mem_cons.mp hq with rfl | hq
      · simp
      · rcases List.mem_append.mp hq with hq | hq
        · exact List.mem_cons_of_mem _ hq
        · rw [List.mem_singleton.mp hq]; simp
    exact ⟨f _ this.1, f _ this.2⟩
theorem lk_sides {Ls : List Ln} : ∀ (bs : List P) (a : P), (∀ g ∈ sidesW a bs, g ∈ Ls) → Lk (E2 Ls) a bs
  | [], _, _ => trivial
  | b :: bs, a, h => ⟨⟨⟨a, b⟩, h _ (by simp [sidesW]), turn_aba a b, turn_abb a b⟩, lk_sides bs b fun g hg => h g (by simp [sidesW, hg])⟩
theorem bs_mono {B C : Nat} {v : P} (h : Bs B v) (l : B ≤ C) : Bs C v := ⟨h.1.mono l, h.2.mono l⟩
theorem Dr.px {f : List P} (h : Dr f) {B : Nat} {Ls : List Ln} (hB : 36 ≤ B) (hs : ∀ g ∈ sides f, g ∈ Ls) : PX B Ls f := by
  refine ⟨?_, fun v hv => .inl (bs_mono (h.bs v hv) hB), h.poly.uni⟩
  cases f with
  | nil => exact trivial
  | cons p ps => exact lk_sides _ _ hs
theorem Dr.side {f : List P} (h : Dr f) : ∀ g ∈ sides f, g.ok ∧ Bs 36 g.s ∧ Bs 36 g.e ∧ Ins g f := fun g hg =>
  ⟨(h.poly.sides_ok g hg).1, h.bs _ (sides_mem g hg).1, h.bs _ (sides_mem g hg).2, (h.poly.sides_ok g hg).2⟩
theorem clip_in {g : Ln} : ∀ (bs : List P) (a : P), Ins g (clipW g a bs)
  | [], a, v, hv => absurd hv (by simp [clipW])
  | b :: bs, a, v, hv => by
    rcases List.mem_append.mp (show v ∈ piece g a b ++ clipW g b bs from hv) with hv | hv
    · unfold piece at hv
      rcases List.mem_append.mp hv with hv | hv
      · split at hv
        · rw [List.mem_singleton.mp hv]; assumption
        · cases hv
      · split at hv
        · rename_i o
          rw [List.mem_singleton.mp hv, meet_on g (by unfold opp at o; grind)]; exact Rat.le_refl
        · cases hv
    · exact clip_in bs b v hv
theorem clip_ins_self (g : Ln) (X : List P) : Ins g (clip g X) := by
  cases X with
  | nil => exact fun v hv => absurd hv (by simp [clip])
  | cons p ps => exact clip_in _ _
theorem flt_or (X : List P) : flt X = [] ∨ 2 < (flt X).length := by
  unfold flt
  split
  · rename_i h; exact .inr h
  · exact .inl rfl
/-! ### the last part: without -/
theorem ne_polD (Qs : List (List P)) : cmpD .ne (polD Qs) (polD Qs) = some false := ne_same (k := 4) (okDs_of fun d hd => by
  obtain ⟨X, _, rfl⟩ := List.mem_map.mp hd
  exact ok_ptsD X 0) (by decide)
def lawD : Ss := (.cons (.set 10 (.comp (.prim .list (.cons (.slot 9) .nil)) [9] (.seq (.slot 2)) .nil [9])) (.cons (.ifS (.or (.cons (.cmp .ne (.call 19 (.cons (.prim .list (.cons (.slot 1) .nil)) (.cons (.slot 10) .nil)) []) (.slot 8)) (.cons (.cmp .ne (.slot 10) (.slot 2)) .nil))) (.cons (.ret (.cbl false)) .nil) .nil) (.cons (.ret (.cmp .eq (.call 19 (.cons (.prim .list (.cons (.slot 1) .nil)) (.cons (.bin .add (.slot 10) (.lst (.cons (.prim .list (.cons (.slot 1) .nil)) .nil))) .nil)) []) (.tup (.cons (.cint 0) (.cons (.cint 1) .nil))))) .nil)))
/-- the lines of all polygons -/
def lns (first : List P) (Qs : List (List P)) : List Ln := sides first ++ Qs.flatMap sides
theorem lns_ctx {first : List P} {Qs : List (List P)} (hf : Dr first) (hQ : ∀ Q ∈ Qs, Dr Q) (hn : Qs.length ≤ 2) : Ctx2 36 (lns first Qs) ∧ (lns first Qs).length ≤ 18 ∧ (∀ g ∈ sides first, g ∈ lns first Qs) ∧ ∀ Q ∈ Qs, ∀ g ∈ sides Q, g ∈ lns first Qs := by
  have hmem : ∀ g ∈ lns first Qs, g.ok ∧ Bs 36 g.s ∧ Bs 36 g.e := by
    intro g hg
    rcases List.mem_append.mp hg with hg | hg
    · have := hf.side g hg; exact ⟨this.1, this.2.1, this.2.2.1⟩
    · obtain ⟨Q, hq, hg⟩ := List.mem_flatMap.mp hg
      have := (hQ Q hq).side g hg; exact ⟨this.1, this.2.1, this.2.2.1⟩
  refine ⟨⟨⟨fun g hg => (hmem g hg).1, fun g hg => (hmem g hg).2.1, fun g hg => (hmem g hg).2.2⟩, by decide⟩, ?_, fun g hg => List.mem_append_left _ hg, fun Q hq g hg => List.mem_append_right _ (List.mem_flatMap.mpr ⟨Q, hq, hg⟩)⟩
  have h1 : (sides first).length ≤ 6 := by rw [sides_len]; exact hf.len
  have h2 : (Qs.flatMap sides).length ≤ 6 * Qs.length := by
    clear hmem hn
    induction Qs with
    | nil => simp
    | cons Q Qs ih =>
      rw [List.flatMap_cons, List.length_append, sides_len]
      have := (hQ Q (by simp)).len
      have := ih fun R hR => hQ R (List.mem_cons_of_mem _ hR)
      simp only [List.length_cons]
      omega
  show (sides first ++ Qs.flatMap sides).length ≤ 18
  rw [List.length_append]
  omega
theorem runD {first : List P} {Qs : List (List P)} (hf : Dr first) (hQ : ∀ Q ∈ Qs, Dr Q) (hn : Qs.length ≤ 2) (x0 x3 x4 x5 x6 x7 x9 x10 x11 : SV) :
    evSs (R 39) 20000 lawD [x0, .val (ptsD first), .val (polD Qs), x3, x4, x5, x6, x7, .val (fr (tot cr (pieces (Qs.map sides) first))), x9, x10, x11] = some (.rt (.bl true)) := by
  obtain ⟨C, h18, m1, m2⟩ := lns_ctx hf hQ hn
  have hX := hf.px (Nat.le_refl 36) m1
  have w1 := without19 39 (by decide) C h18 first Qs hX (fun Q hq => ⟨m2 Q hq, (hQ Q hq).len⟩) hf.len (by omega)
  have w2 := without19 39 (by decide) C h18 first (Qs ++ [first]) hX (fun Q hq => by
    rcases List.mem_append.mp hq with hq | hq
    · exact ⟨m2 Q hq, (hQ Q hq).len⟩
    · rw [List.mem_singleton.mp hq]; exact ⟨m1, hf.len⟩) hf.len (by simp; omega)
  have hself : tot cr (pieces ((Qs ++ [first]).map sides) first) = 0 := by
    rw [List.map_append]
    exact without_self (fun g hg => (hf.side g hg).1) (fun g hg => (hf.side g hg).2.2.2)
  rw [hself] at w2
  have l100 : (100 : Nat) ≤ line := by decide
  have l1 : (1 : Nat) ≤ line := by decide
  have l2 : (2 : Nat) ≤ line := by decide
  have hc : evE (R 39) (.comp (.prim .list (.cons (.slot 9) .nil)) [9] (.seq (.slot 2)) .nil [9]) [x0, .val (ptsD first), .val (polD Qs), x3, x4, x5, x6, x7, .val (fr (tot cr (pieces (Qs.map sides) first))), x9, x10, x11] = some (polD Qs) := by
    rw [comp_seq_map (f := ptsD) (g := ptsD) (xs := Qs) (d := polD Qs) (by simp) rfl (by omega)]
    · rfl
    · intro X hX
      have e : D.lst (X.map ptD) = ptsD X := rfl
      generalize polD Qs = PQ
      simp [e]
  have lf : lst? (ptsD first) = some (first.map ptD) := rfl
  have ef : D.lst (first.map ptD) = ptsD first := rfl
  have n1 : cmpD .ne (fr (tot cr (pieces (Qs.map sides) first))) (fr (tot cr (pieces (Qs.map sides) first))) = some false := ne_same (ok_fr _ 0) (by decide)
  have n2 := ne_polD Qs
  have hcat : catD (polD Qs) (.lst [ptsD first]) = some ((Qs ++ [first]).map ptsD) := by
    show (if decide ((Qs.map ptsD).length + 1 ≤ line) = true then _ else _) = _
    rw [List.length_map, if_pos (decide_eq_true (by omega))]
    simp
  have ep : D.lst ((Qs ++ [first]).map ptsD) = polD (Qs ++ [first]) := rfl
  have z : fr 0 = D.tup [.int 0, .int 1] := rfl
  have he : cmpD .eq (fr 0) (.tup [.int 0, .int 1]) = some true := by rw [← z]; exact eq_same (ok_fr 0 0) (by decide)
  generalize tot cr (pieces (Qs.map sides) first) = TT at *
  generalize (Qs ++ [first]).map ptsD = QF at *
  simp [lawD, hc, lf, ef, w1, n1, n2, l1, hcat, ep, w2, l2, he]
/-! ### what is due -/
def lawC : Ss := (.cons (.set 8 (.call 34 (.cons (.slot 1) .nil) [])) (.cons (.forS [9] (.seq (.slot 2)) (.cons (.set 8 (.call 24 (.cons (.slot 8) (.cons (.call 36 (.cons (.lst (.cons (.slot 1) (.cons (.slot 9) .nil))) .nil) []) .nil)) [])) .nil)) (.cons (.ifS (.cmp .eq (.prim .len (.cons (.slot 2) .nil)) (.cint 2)) (.cons (.set 8 (.call 23 (.cons (.slot 8) (.cons (.call 36 (.cons (.lst (.cons (.slot 1) (.cons (.idx (.slot 2) (.cint 0)) (.cons (.idx (.slot 2) (.cint 1)) .nil)))) .nil) []) .nil)) [])) .nil) .nil) lawD)))
theorem cr_in {a b : P} (ha : Bs 36 a) (hb : Bs 36 b) : In 36 2592 (cr a b) := (ha.1.mul hb.2).sub (ha.2.mul hb.1)
theorem walk_in : ∀ (bs : List P) (a : P), (∀ v ∈ a :: bs, Bs 36 v) → In 36 (2592 * bs.length) (walk cr a bs)
  | [], _, _ => In.zero _ _
  | b :: bs, a, h => by
    have ih := walk_in bs b fun v hv => h v (List.mem_cons_of_mem _ hv)
    exact ((cr_in (h a (by simp)) (h b (by simp))).add ih).mono (by rw [List.length_cons, Nat.mul_add]; omega)
theorem Dr.cyc_sz14 {f : List P} (h : Dr f) : Sz 14 (cyc cr f) := by
  have key : In 36 (2592 * 6) (cyc cr f) := by
    have hl := h.len
    have hb := h.bs
    cases f with
    | nil => exact In.zero _ _
    | cons p ps =>
      have := walk_in (ps ++ [p]) p fun v hv => by
        rcases List.mem_cons.mp hv with rfl | hv
        · exact hb v (by simp)
        · rcases List.mem_append.mp hv with hv | hv
          · exact hb v (List.mem_cons_of_mem _ hv)
          · rw [List.mem_singleton.mp hv]; exact hb p (by simp)
      exact In.mono this (Nat.mul_le_mul_left _ (by simpa using hl))
  exact key.sz (by decide) (by decide) (by decide)
theorem runC {first : List P} {Qs : List (List P)} (hf : Dr first) (hQ : ∀ Q ∈ Qs, Dr Q) (hn : Qs.length ≤ 2) (x0 x3 x4 x5 x6 x7 x8 x9 x10 x11 : SV) :
    evSs (R 39) 20000 lawC [x0, .val (ptsD first), .val (polD Qs), x3, x4, x5, x6, x7, x8, x9, x10, x11] = some (.rt (.bl true)) := by
  obtain ⟨C, h18, m1, m2⟩ := lns_ctx hf hQ hn
  have hX := hf.px (Nat.le_refl 36) m1
  have O := osL 39 (by decide)
  have gf := C.gd hX
  have h34 := size34 39 (by decide) first gf (by have := hf.len; omega)
  have s0 := hf.cyc_sz14
  have sh : ∀ (Rs : List (List P)) (k : Nat), (∀ Q ∈ Rs, Q ∈ Qs) → Rs.length ≤ 2 → 88 * (6 + 6 * Rs.length) + 1 ≤ k → R 39 36 [polD (first :: Rs)] = some (fr (cyc cr (sharedL Rs first))) ∧ Sz k (cyc cr (sharedL Rs first)) := by
    intro Rs k hR hl hk
    obtain ⟨k1, k2, k3⟩ := shared36 39 (by decide) C first Rs hX (fun Q hq => ⟨m2 Q (hR Q hq), (hQ Q (hR Q hq)).len⟩) hf.len hl
    exact ⟨k1, (cyc_sz (C.gd k2)).mono (by omega)⟩
  have okS : ∀ Q ∈ Qs, ∀ g ∈ sides Q, g.ok := fun Q hq g hg => ((hQ Q hq).side g hg).1
  have l2 : (2 : Nat) ≤ line := by decide
  have l3 : (3 : Nat) ≤ line := by decide
  have ed : ∀ y9 : SV, evSs (R 39) 20000 lawD [x0, .val (ptsD first), .val (polD Qs), x3, x4, x5, x6, x7, .val (fr (tot cr (pieces (Qs.map sides) first))), y9, x10, x11] = some (.rt (.bl true))   := fun y9 => runD hf hQ hn x0 x3 x4 x5 x6 x7 y9 x10 x11
  have lQ : lst? (polD Qs) = some (Qs.map ptsD) := rfl
  clear lQ C h18 m1 m2 hX
  have three : Qs = [] ∨ (∃ Q, Qs = [Q]) ∨ ∃ Q1 Q2, Qs = [Q1, Q2] := by
    cases Qs with
    | nil => exact .inl rfl
    | cons Q Qs =>
      cases Qs with
      | nil => exact .inr (.inl ⟨Q, rfl⟩)
      | cons Q2 Qs =>
        cases Qs with
        | nil => exact .inr (.inr ⟨Q, Q2, rfl⟩)
        | cons _ _ => simp at hn
  rcases three with rfl | ⟨Q, rfl⟩ | ⟨Q1, Q2, rfl⟩
  · skip
    have e0 : tot cr (pieces (([] : List (List P)).map sides) first) = cyc cr first := without_0 first
    rw [e0] at ed
    have hlen : primD .len [polD []] = some (.int 0) := rfl
    have ed' := ed x9
    have lQ' : lst? (polD []) = some [] := rfl
    generalize cyc cr first = q at *
    simp [lawC, h34, evS_forF, lQ', hlen, ed']
  · skip
    obtain ⟨s1, z1⟩ := sh [Q] 1057 (fun R hR => hR) (by simp) (by simp)
    have d1 := O.mi _ _ (s0.mono (by decide)) (z1.mono (by decide))
    have e0 : tot cr (pieces (([Q] : List (List P)).map sides) first) = cyc cr first - cyc cr (sharedL [Q] first) := without_1 (okS Q (by simp)) first
    rw [e0] at ed
    have hlen : primD .len [polD [Q]] = some (.int 1) := rfl
    have ed' := ed (.val (ptsD Q))
    have lQ' : lst? (polD [Q]) = some [ptsD Q] := rfl
    have ep : polD [first, Q] = .lst [ptsD first, ptsD Q] := rfl
    rw [ep] at s1
    generalize cyc cr (sharedL [Q] first) = q1 at *
    generalize cyc cr first = q at *
    have hst : stepF (R 39) 20000 [9] (.cons (.set 8 (.call 24 (.cons (.slot 8) (.cons (.call 36 (.cons (.lst (.cons (.slot 1) (.cons (.slot 9) .nil))) .nil) []) .nil)) [])) .nil) (ptsD Q) [x0, .val (ptsD first), .val (polD [Q]), x3, x4, x5, x6, x7, .val (fr q), x9, x10, x11] =
        some (.nx [x0, .val (ptsD first), .val (polD [Q]), x3, x4, x5, x6, x7, .val (fr (q - q1)), .val (ptsD Q), x10, x11]) := by
      simp [stepF, l2, s1, d1]
    simp [lawC, h34, evS_forF, lQ', forM_cons, hst, hlen, ed']
  · skip
    obtain ⟨s1, z1⟩ := sh [Q1] 1057 (fun R hR => by rw [List.mem_singleton.mp hR]; simp) (by simp) (by simp)
    obtain ⟨s2, z2⟩ := sh [Q2] 1057 (fun R hR => by rw [List.mem_singleton.mp hR]; simp) (by simp) (by simp)
    obtain ⟨s3, z3⟩ := sh [Q1, Q2] 1585 (fun R hR => hR) (by simp) (by simp)
    have d1 := O.mi _ _ (s0.mono (by decide)) (z1.mono (by decide))
    have sd1 := s0.sub z1
    have d2 := O.mi _ _ (sd1.mono (by decide)) (z2.mono (by decide))
    have sd2 := sd1.sub z2
    have d3 := O.pl _ _ (sd2.mono (by decide)) (z3.mono (by decide))
    have e0 : tot cr (pieces (([Q1, Q2] : List (List P)).map sides) first) = cyc cr first - cyc cr (sharedL [Q1] first) - cyc cr (sharedL [Q2] first) + cyc cr (sharedL [Q1, Q2] first) := without_2 (okS Q1 (by simp)) (okS Q2 (by simp)) first
    rw [e0] at ed
    have hlen : primD .len [polD [Q1, Q2]] = some (.int 2) := rfl
    have ed' := ed (.val (ptsD Q2))
    have lQ' : lst? (polD [Q1, Q2]) = some [ptsD Q1, ptsD Q2] := rfl
    have ep1 : polD [first, Q1] = .lst [ptsD first, ptsD Q1] := rfl
    have ep2 : polD [first, Q2] = .lst [ptsD first, ptsD Q2] := rfl
    have ep3 : polD [first, Q1, Q2] = .lst [ptsD first, ptsD Q1, ptsD Q2] := rfl
    rw [ep1] at s1
    rw [ep2] at s2
    rw [ep3] at s3
    have i0 : ixD (polD [Q1, Q2]) (.int 0) = some (ptsD Q1) := ix_lst (i := 0) rfl
    have i1 : ixD (polD [Q1, Q2]) (.int 1) = some (ptsD Q2) := ix_lst (i := 1) rfl
    generalize cyc cr (sharedL [Q1] first) = q1 at *
    generalize cyc cr (sharedL [Q2] first) = q2 at *
    generalize cyc cr (sharedL [Q1, Q2] first) = q3 at *
    generalize cyc cr first = q at *
    have hst : ∀ (Q : List P) (u v w : Rat) (y9 : SV), R 39 36 [.lst [ptsD first, ptsD Q]] = some (fr v) → R 39 24 [fr u, fr v] = some (fr w) → stepF (R 39) 20000 [9] (.cons (.set 8 (.call 24 (.cons (.slot 8) (.cons (.call 36 (.cons (.lst (.cons (.slot 1) (.cons (.slot 9) .nil))) .nil) []) .nil)) [])) .nil) (ptsD Q) [x0, .val (ptsD first), .val (polD [Q1, Q2]), x3, x4, x5, x6, x7, .val (fr u), y9, x10, x11] =
        some (.nx [x0, .val (ptsD first), .val (polD [Q1, Q2]), x3, x4, x5, x6, x7, .val (fr w), .val (ptsD Q), x10, x11]) := by
      intro Q u v w y9 h1 h2
      simp [stepF, l2, h1, h2]
    have hst1 := hst Q1 q q1 _ x9 s1 d1
    have hst2 := hst Q2 (q - q1) q2 _ (.val (ptsD Q1)) s2 d2
    simp [lawC, h34, evS_forF, lQ', forM_cons, hst1, hst2, hlen, i0, i1, l3, s3, d3, ed']
end K28

/-! the law's run: the cut in two; the draws. -/
namespace K28
open PySem MP MG
def lawB : Ss := (.cons (.set 6 (.call 15 (.cons (.prim .list (.cons (.slot 1) .nil)) (.cons (.slot 4) (.cons (.slot 5) .nil))) [])) (.cons (.set 7 (.call 15 (.cons (.prim .list (.cons (.slot 1) .nil)) (.cons (.slot 5) (.cons (.slot 4) .nil))) [])) (.cons (.ifS (.or (.cons (.not (.tru (.call 41 (.cons (.slot 6) (.cons (.slot 4) (.cons (.slot 5) .nil))) []))) (.cons (.not (.tru (.call 41 (.cons (.slot 7) (.cons (.slot 5) (.cons (.slot 4) .nil))) []))) .nil))) (.cons (.ret (.cbl false)) .nil) .nil) (.cons (.ifS (.cmp .ne (.call 13 (.cons (.slot 6) .nil) []) (.call 34 (.cons (.call 35 (.cons (.slot 1) (.cons (.slot 4) (.cons (.slot 5) .nil))) []) .nil) [])) (.cons (.ret (.cbl false)) .nil) .nil) (.cons (.ifS (.cmp .ne (.call 23 (.cons (.call 13 (.cons (.slot 6) .nil) []) (.cons (.call 13 (.cons (.slot 7) .nil) []) .nil)) []) (.call 34 (.cons (.slot 1) .nil) [])) (.cons (.ret (.cbl false)) .nil) .nil) lawC)))))
theorem runB {first : List P} {Qs : List (List P)} (hf : Dr first) (hQ : ∀ Q ∈ Qs, Dr Q) (hn : Qs.length ≤ 2) {s e : P} (hs : Bs 48 s) (he : Bs 48 e) (hse : s ≠ e) (x0 x3 x6 x7 x8 x9 x10 x11 : SV) :
    evSs (R 39) 20000 lawB [x0, .val (ptsD first), .val (polD Qs), x3, .val (ptD s), .val (ptD e), x6, x7, x8, x9, x10, x11] = some (.rt (.bl true)) := by
  have gok : (⟨s, e⟩ : Ln).ok := hse
  have C : Ctx2 48 ((⟨s, e⟩ : Ln) :: sides first) := by
    have hm : ∀ g ∈ (⟨s, e⟩ : Ln) :: sides first, g.ok ∧ Bs 48 g.s ∧ Bs 48 g.e := by
      intro g hg
      rcases List.mem_cons.mp hg with rfl | hg
      · exact ⟨gok, hs, he⟩
      · have := hf.side g hg
        exact ⟨this.1, bs_mono this.2.1 (by decide), bs_mono this.2.2.1 (by decide)⟩
    exact ⟨⟨fun g hg => (hm g hg).1, fun g hg => (hm g hg).2.1, fun g hg => (hm g hg).2.2⟩, by decide⟩
  have hX : PX 48 ((⟨s, e⟩ : Ln) :: sides first) first := hf.px (by decide) fun g hg => List.mem_cons_of_mem _ hg
  have gm : (⟨s, e⟩ : Ln) ∈ (⟨s, e⟩ : Ln) :: sides first := by simp
  have gse := C.gs gm
  have gf := C.gd hX
  have lf6 := hf.len
  have p1 := px_cut C (on_mem gm) hX
  have p2 := px_cut C (on_rev gm) hX
  have p3 := hX.clip C.L (on_mem gm)
  have l3 := clip_len (g := ⟨s, e⟩) hX.un
  have a1 : R 39 15 [ptsD first, ptD s, ptD e] = some (ptsD (flt (clip ⟨s, e⟩ first))) := left15 39 (by decide) ⟨s, e⟩ first gf gse.1 gse.2 (by omega)
  have a2 : R 39 15 [ptsD first, ptD e, ptD s] = some (ptsD (flt (clip (Ln.rev ⟨s, e⟩) first))) := left15 39 (by decide) (Ln.rev ⟨s, e⟩) first gf gse.2 gse.1 (by omega)
  have b1 : R 39 41 [ptsD (flt (clip ⟨s, e⟩ first)), ptD s, ptD e] = some (.bl true) := isleft41 39 (by decide) ⟨s, e⟩ _ (C.gd p1.1) gse.1 gse.2 (flt_ins (clip_ins_self _ _)) (flt_or _)
  have b2 : R 39 41 [ptsD (flt (clip (Ln.rev ⟨s, e⟩) first)), ptD e, ptD s] = some (.bl true) := isleft41 39 (by decide) (Ln.rev ⟨s, e⟩) _ (C.gd p2.1) gse.2 gse.1 (flt_ins (clip_ins_self _ _)) (flt_or _)
  have c1 := size13 39 (by decide) _ (C.gd p1.1) (by have := p1.2; omega)
  have c2 := size13 39 (by decide) _ (C.gd p2.1) (by have := p2.2; omega)
  have d1 : R 39 35 [ptsD first, ptD s, ptD e] = some (ptsD (clip ⟨s, e⟩ first)) := lclip35 39 (by decide) ⟨s, e⟩ first gf gse.1 gse.2 (by omega)
  have d2 := size34 39 (by decide) (clip ⟨s, e⟩ first) (C.gd p3) (by omega)
  have d3 := size34 39 (by decide) first gf (by omega)
  have z1 : Sz 1000 (cyc cr (flt (clip ⟨s, e⟩ first))) := (cyc_sz (C.gd p1.1)).mono (by have := p1.2; omega)
  have z2 : Sz 1000 (cyc cr (flt (clip (Ln.rev ⟨s, e⟩) first))) := (cyc_sz (C.gd p2.1)).mono (by have := p2.2; omega)
  have pp := (osL 39 (by decide)).pl _ _ (z1.mono (by decide)) (z2.mono (by decide))
  have sp : cyc cr (flt (clip ⟨s, e⟩ first)) + cyc cr (flt (clip (Ln.rev ⟨s, e⟩) first)) = cyc cr first := by
    rw [cyc_flt ca_cr, cyc_flt ca_cr]
    exact (cyc_split gok ca_cr first).symm
  rw [sp] at pp
  have ef := cyc_flt ca_cr (clip ⟨s, e⟩ first)
  rw [← ef] at d2
  have n1 : cmpD .ne (fr (cyc cr (flt (clip ⟨s, e⟩ first)))) (fr (cyc cr (flt (clip ⟨s, e⟩ first)))) = some false := ne_same (ok_fr _ 0) (by decide)
  have n2 : cmpD .ne (fr (cyc cr first)) (fr (cyc cr first)) = some false := ne_same (ok_fr _ 0) (by decide)
  have lf : lst? (ptsD first) = some (first.map ptD) := rfl
  have e1 : D.lst (first.map ptD) = ptsD first := rfl
  refine Eq.trans ?_ (runC hf hQ hn x0 x3 (.val (ptD s)) (.val (ptD e)) (.val (ptsD (flt (clip ⟨s, e⟩ first)))) (.val (ptsD (flt (clip (Ln.rev ⟨s, e⟩) first)))) x8 x9 x10 x11)
  clear sp ef
  generalize flt (clip ⟨s, e⟩ first) = A at *
  generalize flt (clip (Ln.rev ⟨s, e⟩) first) = B at *
  generalize clip ⟨s, e⟩ first = CC at *
  generalize cyc cr A = qa at *
  generalize cyc cr B = qb at *
  generalize cyc cr first = q at *
  simp [lawB, lf, e1, a1, a2, b1, b2, tru_bl, c1, c2, d1, d2, d3, pp, n1, n2]
def lawA : Ss := (.cons (.ifS (.not (.tru (.call 39 (.cons (.call 37 (.cons (.slot 0) .nil) []) .nil) []))) (.cons (.ret (.cbl false)) .nil) .nil) (.cons (.set 1 (.call 40 (.cons (.call 20 (.cons (.slot 0) (.cons (.cint 0) .nil)) []) .nil) [])) (.cons (.set 2 (.comp (.call 40 (.cons (.call 20 (.cons (.slot 0) (.cons (.bin .add (.cint 1) (.slot 11)) .nil)) []) .nil) []) [11] (.rng1 (.bin .mod (.prim .int (.cons (.call 20 (.cons (.slot 0) (.cons (.cint 3) .nil)) []) .nil)) (.cint 3))) .nil [11])) (.cons (.set 3 (.call 21 (.cons (.call 20 (.cons (.slot 0) (.cons (.cint 4) .nil)) []) (.cons (.cint 4) (.cons (.cint 1000) .nil))) [])) (.cons (.set 4 (.tup (.cons (.call 22 (.cons (.bin .sub (.bin .mod (.idx (.slot 3) (.cint 0)) (.cint 13)) (.cint 6)) (.cons (.cint 2) .nil)) []) (.cons (.call 22 (.cons (.bin .sub (.bin .mod (.idx (.slot 3) (.cint 1)) (.cint 13)) (.cint 6)) (.cons (.cint 2) .nil)) []) .nil)))) (.cons (.set 5 (.tup (.cons (.call 23 (.cons (.idx (.slot 4) (.cint 0)) (.cons (.tup (.cons (.bin .add (.cint 1) (.bin .mod (.idx (.slot 3) (.cint 2)) (.cint 5))) (.cons (.cint 1) .nil))) .nil)) []) (.cons (.call 23 (.cons (.idx (.slot 4) (.cint 1)) (.cons (.tup (.cons (.bin .sub (.bin .mod (.idx (.slot 3) (.cint 3)) (.cint 9)) (.cint 4)) (.cons (.cint 1) .nil))) .nil)) []) .nil)))) lawB))))))
theorem law_eq : d_law = ⟨1, 12, lawA⟩ := rfl
theorem int_in {z : Int} {m : Nat} (h : z.natAbs ≤ m) : In 6 (m * 6) (z : Rat) := ⟨z * 6, by rw [Rat.intCast_mul]; rfl, by rw [Int.natAbs_mul]; exact Nat.mul_le_mul_right 6 h⟩
theorem plain (ns : List Int) (h : ns.length ≤ 63) : run tab 20000 40 42 [.lst (ns.map .int)] = some (.bl true) := by
  obtain ⟨pts, h37, gp, lp⟩ := points37 39 (by decide) ns
  have h39 := right39 39 (by decide) pts gp lp
  obtain ⟨z0, c0⟩ := cell20 39 (by decide) (ns := ns) 0
  obtain ⟨z3, c3⟩ := cell20 39 (by decide) (ns := ns) 3
  obtain ⟨z4, c4⟩ := cell20 39 (by decide) (ns := ns) 4
  obtain ⟨first, h40, hf⟩ := drawn40 39 (by decide) z0
  have f3 := fmod_small (a := z3) (m := 3) (by decide)
  obtain ⟨n, hn⟩ : ∃ n : Nat, z3.fmod 3 = (n : Int) := ⟨(z3.fmod 3).toNat, by omega⟩
  have hn2 : n ≤ 2 := by omega
  have each : ∀ k : Nat, ∃ q : Int × List P, R 39 20 [.lst (ns.map .int), .int ((1 + k : Nat) : Int)] = some (.int q.1) ∧ R 39 40 [.int q.1] = some (ptsD q.2) ∧ Dr q.2 := by
    intro k
    obtain ⟨z, hz⟩ := cell20 39 (by decide) (ns := ns) (1 + k)
    obtain ⟨f, h1, h2⟩ := drawn40 39 (by decide) z
    exact ⟨(z, f), hz, h1, h2⟩
  obtain ⟨q, hq⟩ := Classical.axiomOfChoice each
  have hlen : ((List.range n).map fun k => (q k).2).length ≤ 2 := by simpa using hn2
  have hQ : ∀ Q ∈ (List.range n).map (fun k => (q k).2), Dr Q := fun Q hQ => by
    obtain ⟨k, _, rfl⟩ := List.mem_map.mp hQ
    exact (hq k).2.2
  have l2 : (2 : Nat) ≤ line := by decide
  have c3' : R 39 20 [.lst (ns.map .int), .int 3] = some (.int z3) := c3
  have hothers : ∀ x1 : SV, evE (R 39) (.comp (.call 40 (.cons (.call 20 (.cons (.slot 0) (.cons (.bin .add (.cint 1) (.slot 11)) .nil)) []) .nil) []) [11] (.rng1 (.bin .mod (.prim .int (.cons (.call 20 (.cons (.slot 0) (.cons (.cint 3) .nil)) []) .nil)) (.cint 3))) .nil [11]) [.val (.lst (ns.map .int)), x1, .non, .non, .non, .non, .non, .non, .non, .non, .non, .non] =
      some (polD ((List.range n).map fun k => (q k).2)) := by
    intro x1
    rw [comp_range (n := n) (g := fun k => ptsD (q k).2)]
    · unfold polD; rw [List.map_map]; rfl
    · generalize ns.map D.int = NS at *
      simp [c3', bin_mod, hn]
    · omega
    · intro k hk
      obtain ⟨k1, k2, _⟩ := hq k
      have k1' : R 39 20 [.lst (ns.map .int), .int (1 + (k : Int))] = some (.int (q k).1) := k1
      generalize ns.map D.int = NS at *
      generalize (q k).2 = W at *
      simp [k1', k2]
  obtain ⟨ds, hds, hd0⟩ := draw21 39 (by decide) z4 (n := 4) (by decide)
  have hd' : R 39 21 [.int z4, .int 4, .int 1000] = some (.lst (ds.map .int)) := hd0
  obtain ⟨a, b, c, d, rfl⟩ : ∃ a b c d, ds = [a, b, c, d] := by
    match ds, hds with
    | [a, b, c, d], _ => exact ⟨a, b, c, d, rfl⟩
  have fa := fmod_small (a := a) (m := 13) (by decide)
  have fb := fmod_small (a := b) (m := 13) (by decide)
  have fc := fmod_small (a := c) (m := 5) (by decide)
  have fd := fmod_small (a := d) (m := 9) (by decide)
  have i0 : ixD (.lst ([a, b, c, d].map .int)) (.int 0) = some (.int a) := ix_lst (i := 0) rfl
  have i1 : ixD (.lst ([a, b, c, d].map .int)) (.int 1) = some (.int b) := ix_lst (i := 1) rfl
  have i2 : ixD (.lst ([a, b, c, d].map .int)) (.int 2) = some (.int c) := ix_lst (i := 2) rfl
  have i3 : ixD (.lst ([a, b, c, d].map .int)) (.int 3) = some (.int d) := ix_lst (i := 3) rfl
  have hP : pure? (D.lst ([a, b, c, d].map D.int)) = some (D.lst ([a, b, c, d].map D.int)) := rfl
  have q1 := mk22' 39 (by decide) (a := a.fmod 13 - 6) (b := 2) (by decide) (by decide)
  have q2 := mk22' 39 (by decide) (a := b.fmod 13 - 6) (b := 2) (by decide) (by decide)
  have s1 : In 6 18 (Rat.divInt (a.fmod 13 - 6) 2) := by
    have hh := divInt_mul (n := a.fmod 13 - 6) (d := 2) (by decide)
    exact ⟨(a.fmod 13 - 6) * 3, by
      have e : (((6 : Nat) : Int) : Rat) = ((2 : Int) : Rat) * ((3 : Int) : Rat) := by rw [← Rat.intCast_mul]; rfl
      rw [e, Rat.intCast_mul, ← hh]; grind, by omega⟩
  have s2 : In 6 18 (Rat.divInt (b.fmod 13 - 6) 2) := by
    have hh := divInt_mul (n := b.fmod 13 - 6) (d := 2) (by decide)
    exact ⟨(b.fmod 13 - 6) * 3, by
      have e : (((6 : Nat) : Int) : Rat) = ((2 : Int) : Rat) * ((3 : Int) : Rat) := by rw [← Rat.intCast_mul]; rfl
      rw [e, Rat.intCast_mul, ← hh]; grind, by omega⟩
  have u1 : In 6 30 ((1 + c.fmod 5 : Int) : Rat) := int_in (m := 5) (by omega)
  have u2 : In 6 30 ((d.fmod 9 - 4 : Int) : Rat) := (int_in (m := 4) (by omega)).mono (by decide)
  have O := osL 39 (by decide)
  have w1 := O.pl _ _ (s1.sz (k := 2400) (by decide) (Nat.lt_of_lt_of_le (by decide : 6 < 2 ^ 5) (Nat.pow_le_pow_right (by decide) (by decide))) (Nat.lt_of_lt_of_le (by decide : 18 < 2 ^ 5) (Nat.pow_le_pow_right (by decide) (by decide)))) (u1.sz (k := 2400) (by decide) (Nat.lt_of_lt_of_le (by decide : 6 < 2 ^ 5) (Nat.pow_le_pow_right (by decide) (by decide))) (Nat.lt_of_lt_of_le (by decide : 30 < 2 ^ 5) (Nat.pow_le_pow_right (by decide) (by decide))))
  have w2 := O.pl _ _ (s2.sz (k := 2400) (by decide) (Nat.lt_of_lt_of_le (by decide : 6 < 2 ^ 5) (Nat.pow_le_pow_right (by decide) (by decide))) (Nat.lt_of_lt_of_le (by decide : 18 < 2 ^ 5) (Nat.pow_le_pow_right (by decide) (by decide)))) (u2.sz (k := 2400) (by decide) (Nat.lt_of_lt_of_le (by decide : 6 < 2 ^ 5) (Nat.pow_le_pow_right (by decide) (by decide))) (Nat.lt_of_lt_of_le (by decide : 30 < 2 ^ 5) (Nat.pow_le_pow_right (by decide) (by decide))))
  rw [← fr_int (1 + c.fmod 5)] at w1
  rw [← fr_int (d.fmod 9 - 4)] at w2
  have hs : Bs 48 (Rat.divInt (a.fmod 13 - 6) 2, Rat.divInt (b.fmod 13 - 6) 2) := ⟨s1.mono (by decide), s2.mono (by decide)⟩
  have he : Bs 48 (Rat.divInt (a.fmod 13 - 6) 2 + ((1 + c.fmod 5 : Int) : Rat), Rat.divInt (b.fmod 13 - 6) 2 + ((d.fmod 9 - 4 : Int) : Rat)) := ⟨s1.add u1, s2.add u2⟩
  have hse : ((Rat.divInt (a.fmod 13 - 6) 2, Rat.divInt (b.fmod 13 - 6) 2) : P) ≠ (Rat.divInt (a.fmod 13 - 6) 2 + ((1 + c.fmod 5 : Int) : Rat), Rat.divInt (b.fmod 13 - 6) 2 + ((d.fmod 9 - 4 : Int) : Rat)) := by
    intro e
    have e1 := congrArg Prod.fst e
    have e2 : ((1 + c.fmod 5 : Int) : Rat) = 0 := by
      have : Rat.divInt (a.fmod 13 - 6) 2 = Rat.divInt (a.fmod 13 - 6) 2 + ((1 + c.fmod 5 : Int) : Rat) := e1
      grind
    exact icast_ne (z := 1 + c.fmod 5) (by omega) e2
  have c0' : R 39 20 [.lst (ns.map .int), .int 0] = some (.int z0) := c0
  have c4' : R 39 20 [.lst (ns.map .int), .int 4] = some (.int z4) := c4
  have hT : ∀ x y : Rat, D.tup [fr x, fr y] = ptD (x, y) := fun _ _ => rfl
  refine run_rt [.val (.lst (ns.map .int)), .non, .non, .non, .non, .non, .non, .non, .non, .non, .non, .non] t42 rfl rfl ?_
  rw [law_eq]
  refine Eq.trans ?_ (runB hf hQ hlen hs he hse (.val (.lst (ns.map .int))) (.val (.lst ([a, b, c, d].map .int))) .non .non .non .non .non .non)
  have ho := hothers (.val (ptsD first))
  clear hothers s1 s2 u1 u2 hs he hse
  generalize (List.range n).map (fun k => (q k).2) = QS at *
  generalize Rat.divInt (a.fmod 13 - 6) 2 = r1 at *
  generalize Rat.divInt (b.fmod 13 - 6) 2 = r2 at *
  generalize r1 + ((1 + c.fmod 5 : Int) : Rat) = r3 at *
  generalize r2 + ((d.fmod 9 - 4 : Int) : Rat) = r4 at *
  generalize D.lst ([a, b, c, d].map D.int) = DS at *
  generalize ns.map D.int = NS at *
  simp [lawA, h37, h39, tru_bl, c0', h40, ho, c4', hd', hP, i0, i1, i2, i3, bin_mod, q1, q2, l2, hT, w1, w2]
end K28

namespace K28
open PySem PySem.Spec PyProof.Rows L2 MP
def topS (i : Nat) : Stmt := PySem.Challenge.pw_trueshop_k28_polygons_without_others.main.body.getD i (.Pass ⟨0, 0, 0, 0⟩)
def ent0 : Ent := ⟨"common_numbers", topS 4, ["a", "b"], ["a", "b"], d_common_numbers, [[]]⟩
def ent1 : Ent := ⟨"fraction", topS 6, ["number", "divisor", "shared"], ["number", "divisor"], d_fraction, [[]]⟩
def ent2 : Ent := ⟨"plus", topS 7, ["a", "b"], ["a", "b"], d_plus, [[]]⟩
def ent3 : Ent := ⟨"minus", topS 8, ["a", "b"], ["a", "b"], d_minus, [[]]⟩
def ent4 : Ent := ⟨"times", topS 9, ["a", "b"], ["a", "b"], d_times, [[]]⟩
def ent5 : Ent := ⟨"over", topS 10, ["a", "b"], ["a", "b"], d_over, [[]]⟩
def ent6 : Ent := ⟨"less", topS 11, ["a", "b"], ["a", "b"], d_less, [[]]⟩
def ent7 : Ent := ⟨"sign", topS 12, ["a"], ["a"], d_sign, [[]]⟩
def ent8 : Ent := ⟨"turn", topS 14, ["a", "b", "c", "across"], ["a", "b", "c"], d_turn, [[]]⟩
def ent9 : Ent := ⟨"smaller", topS 15, ["a", "b"], ["a", "b"], d_smaller, [[]]⟩
def ent10 : Ent := ⟨"put_in", topS 17, ["point", "row", "at"], ["point", "row"], d_put_in, [[]]⟩
def ent11 : Ent := ⟨"chain", topS 18, ["row", "found", "point"], ["row"], d_chain, [[]]⟩
def ent12 : Ent := ⟨"hull", topS 19, ["points", "row", "point", "found"], ["points"], d_hull, [[]]⟩
def ent13 : Ent := ⟨"size_of", topS 20, ["polygon", "found", "k"], ["polygon"], d_size_of, [[]]⟩
def ent14 : Ent := ⟨"crossing", topS 21, ["a", "b", "at_a", "at_b", "part", "k"], ["a", "b", "at_a", "at_b"], d_crossing, [[]]⟩
def ent15 : Ent := ⟨"left_of", topS 22, ["polygon", "start", "end", "amounts", "found", "k", "other", "point"], ["polygon", "start", "end"], d_left_of, [[]]⟩
def ent16 : Ent := ⟨"sides_of", topS 23, ["polygon", "k"], ["polygon"], d_sides_of, [[]]⟩
def ent17 : Ent := ⟨"common_polygons", topS 24, ["polygon", "other", "found", "start", "end"], ["polygon", "other"], d_common_polygons, [[]]⟩
def ent18 : Ent := ⟨"cut_out", topS 26, ["polygon", "other", "found", "rest", "start", "end", "outside"], ["polygon", "other"], d_cut_out, [[]]⟩
def ent19 : Ent := ⟨"without", topS 27, ["polygon", "others", "pieces", "other", "found", "piece", "rest"], ["polygon", "others"], d_without, [[]]⟩
def ent20 : Ent := ⟨"_law_cell", topS 29, ["script", "k"], ["script", "k"], d_law_cell, [[]]⟩
def ent21 : Ent := ⟨"_law_row", topS 30, ["cell", "size", "base", "row", "number", "k", "mixed"], ["cell", "size", "base"], d_law_row, [[]]⟩
def ent22 : Ent := ⟨"_law_fraction", topS 31, ["number", "divisor", "a", "b", "k"], ["number", "divisor"], d_law_fraction, [[]]⟩
def ent23 : Ent := ⟨"_law_plus", topS 32, ["a", "b"], ["a", "b"], d_law_plus, [[]]⟩
def ent24 : Ent := ⟨"_law_minus", topS 33, ["a", "b"], ["a", "b"], d_law_minus, [[]]⟩
def ent25 : Ent := ⟨"_law_times", topS 34, ["a", "b"], ["a", "b"], d_law_times, [[]]⟩
def ent26 : Ent := ⟨"_law_over", topS 35, ["a", "b"], ["a", "b"], d_law_over, [[]]⟩
def ent27 : Ent := ⟨"_law_less", topS 36, ["a", "b"], ["a", "b"], d_law_less, [[]]⟩
def ent28 : Ent := ⟨"_law_middle", topS 37, ["a", "b"], ["a", "b"], d_law_middle, [[]]⟩
def ent29 : Ent := ⟨"_law_turn", topS 38, ["a", "b", "c", "left"], ["a", "b", "c"], d_law_turn, [[]]⟩
def ent30 : Ent := ⟨"_law_is_side", topS 39, ["points", "a", "b", "c", "found", "k"], ["points", "a", "b"], d_law_is_side, [[]]⟩
def ent31 : Ent := ⟨"_law_hull", topS 40, ["points", "after", "a", "row", "k", "b", "c"], ["points"], d_law_hull, [[]]⟩
def ent32 : Ent := ⟨"_law_other", topS 41, ["points", "point"], ["points"], d_law_other, [[]]⟩
def ent33 : Ent := ⟨"_law_least", topS 42, ["points", "best", "point"], ["points"], d_law_least, [[]]⟩
def ent34 : Ent := ⟨"_law_twice", topS 43, ["polygon", "found", "k"], ["polygon"], d_law_twice, [[]]⟩
def ent35 : Ent := ⟨"_law_clip", topS 44, ["polygon", "start", "end", "found", "k", "a", "b", "one", "other", "part", "j"], ["polygon", "start", "end"], d_law_clip, [[]]⟩
def ent36 : Ent := ⟨"_law_shared", topS 45, ["polygons", "found", "other", "k"], ["polygons"], d_law_shared, [[]]⟩
def ent37 : Ent := ⟨"_law_points", topS 46, ["script", "found", "k", "draw", "divisor", "point", "j"], ["script"], d_law_points, [[]]⟩
def ent38 : Ent := ⟨"_law_shoelace", topS 47, ["row", "found", "k", "a", "b"], ["row"], d_law_shoelace, [[]]⟩
def ent39 : Ent := ⟨"_law_right_hull", topS 48, ["points", "due", "handed", "found"], ["points"], d_law_right_hull, [[]]⟩
def ent40 : Ent := ⟨"_law_drawn", topS 49, ["cell", "draw", "found", "k", "row", "divisor"], ["cell"], d_law_drawn, [[]]⟩
def ent41 : Ent := ⟨"_law_is_left", topS 50, ["row", "start", "end", "point"], ["row", "start", "end"], d_law_is_left, [[]]⟩
def ent42 : Ent := ⟨"law", topS 51, ["script", "first", "others", "draw", "start", "end", "one", "other", "due", "polygon", "handed", "k"], ["script"], d_law, [[]]⟩
def es : List Ent := [ent0, ent1, ent2, ent3, ent4, ent5, ent6, ent7, ent8, ent9, ent10, ent11, ent12, ent13, ent14, ent15, ent16, ent17, ent18, ent19, ent20, ent21, ent22, ent23, ent24, ent25, ent26, ent27, ent28, ent29, ent30, ent31, ent32, ent33, ent34, ent35, ent36, ent37, ent38, ent39, ent40, ent41, ent42]
theorem es_tab : es.map (·.fd) = tab := rfl
set_option maxHeartbeats 0 in
theorem es_chk : es.all (chkEnt es) = true := by decide +kernel
end K28

namespace K28
open PySem PySem.Spec PyProof.Rows L2 MP
set_option maxHeartbeats 4000000
theorem b0 (kV doc pm : Value) (an : Option Addr) (cdv ct : Value) (us : List Value) (hl : us.length = 2) : bindArgs (PySem.W.fnOf "common" "common" (defArgs (topS 4)) (defBody (topS 4)) (defScope (topS 4)) .none kV doc pm an cdv ct) ⟨us, []⟩ = pure ((["a", "b"] : List Str).zip us) := match us, hl with | [_, _], _ => rfl
theorem e0 {w : World} {K : PySem.W.Frag} {h : Heap} {mg : Str → Option Value} (X : K.In h) (G : h.Ns mainGlobals mg) {f0 : Addr} {od0 an0 : Option Addr} {sl0 : Array (Option Value)} {oc0 kV0 dc0 pm0 cd0 ct0 : Value} (a0 : PySem.W.nsIn K mainGlobals "common_numbers" = some (some (.ref f0))) (l0 : K.lookup f0 = some ⟨oc0, od0, .func (PySem.W.fnOf "common" "common" (defArgs (topS 4)) (defBody (topS 4)) (defScope (topS 4)) .none kV0 dc0 pm0 an0 cd0 ct0), sl0⟩) (c0 : PySem.W.codeIn K cd0 "common" = true) (k0 : PySem.W.keepIn K (.ref f0) = true) : EntOk K mg ent0 :=
  ent_mk (w := w) (e := ent0) X G a0 l0 c0 k0 rfl b0
theorem e1 {w : World} {K : PySem.W.Frag} {h : Heap} {mg : Str → Option Value} (X : K.In h) (G : h.Ns mainGlobals mg) {f1 : Addr} {od1 an1 : Option Addr} {sl1 : Array (Option Value)} {oc1 kV1 dc1 pm1 cd1 ct1 : Value} {T1 : Addr} {o1 : Obj} {tk1 : Tok} {n1 : Nat} (a1 : PySem.W.nsIn K mainGlobals "fraction" = some (some (.ref f1))) (l1 : K.lookup f1 = some ⟨oc1, od1, .func (PySem.W.fnOf "fraction" "fraction" (defArgs (topS 6)) (defBody (topS 6)) (defScope (topS 6)) (.ref T1) kV1 dc1 pm1 an1 cd1 ct1), sl1⟩) (c1 : PySem.W.codeIn K cd1 "fraction" = true) (k1 : PySem.W.keepIn K (.ref f1) = true) (q1 : K.lookup T1 = some o1) (r1 : o1.data = .seq #[.int 1 tk1] n1) : EntOk K mg ent1 :=
  ent_mk1 (w := w) (e := ent1) (m := 1) (i := 1) X G a1 l1 c1 k1 q1 r1 rfl (by decide +kernel) (by decide +kernel) (fun _ _ _ _ _ _ _ us its h1 h2 => match us, its, h1, h2 with | [_, _], [_], _, _ => ⟨_, rfl, rfl⟩) (fun _ _ _ _ _ _ _ us its h1 h2 => match us, its, h1, h2 with | [_], [_], _, _ => ⟨_, rfl, rfl⟩)
theorem b2 (kV doc pm : Value) (an : Option Addr) (cdv ct : Value) (us : List Value) (hl : us.length = 2) : bindArgs (PySem.W.fnOf "plus" "plus" (defArgs (topS 7)) (defBody (topS 7)) (defScope (topS 7)) .none kV doc pm an cdv ct) ⟨us, []⟩ = pure ((["a", "b"] : List Str).zip us) := match us, hl with | [_, _], _ => rfl
theorem e2 {w : World} {K : PySem.W.Frag} {h : Heap} {mg : Str → Option Value} (X : K.In h) (G : h.Ns mainGlobals mg) {f2 : Addr} {od2 an2 : Option Addr} {sl2 : Array (Option Value)} {oc2 kV2 dc2 pm2 cd2 ct2 : Value} (a2 : PySem.W.nsIn K mainGlobals "plus" = some (some (.ref f2))) (l2 : K.lookup f2 = some ⟨oc2, od2, .func (PySem.W.fnOf "plus" "plus" (defArgs (topS 7)) (defBody (topS 7)) (defScope (topS 7)) .none kV2 dc2 pm2 an2 cd2 ct2), sl2⟩) (c2 : PySem.W.codeIn K cd2 "plus" = true) (k2 : PySem.W.keepIn K (.ref f2) = true) : EntOk K mg ent2 :=
  ent_mk (w := w) (e := ent2) X G a2 l2 c2 k2 rfl b2
theorem b3 (kV doc pm : Value) (an : Option Addr) (cdv ct : Value) (us : List Value) (hl : us.length = 2) : bindArgs (PySem.W.fnOf "minus" "minus" (defArgs (topS 8)) (defBody (topS 8)) (defScope (topS 8)) .none kV doc pm an cdv ct) ⟨us, []⟩ = pure ((["a", "b"] : List Str).zip us) := match us, hl with | [_, _], _ => rfl
theorem e3 {w : World} {K : PySem.W.Frag} {h : Heap} {mg : Str → Option Value} (X : K.In h) (G : h.Ns mainGlobals mg) {f3 : Addr} {od3 an3 : Option Addr} {sl3 : Array (Option Value)} {oc3 kV3 dc3 pm3 cd3 ct3 : Value} (a3 : PySem.W.nsIn K mainGlobals "minus" = some (some (.ref f3))) (l3 : K.lookup f3 = some ⟨oc3, od3, .func (PySem.W.fnOf "minus" "minus" (defArgs (topS 8)) (defBody (topS 8)) (defScope (topS 8)) .none kV3 dc3 pm3 an3 cd3 ct3), sl3⟩) (c3 : PySem.W.codeIn K cd3 "minus" = true) (k3 : PySem.W.keepIn K (.ref f3) = true) : EntOk K mg ent3 :=
  ent_mk (w := w) (e := ent3) X G a3 l3 c3 k3 rfl b3
theorem b4 (kV doc pm : Value) (an : Option Addr) (cdv ct : Value) (us : List Value) (hl : us.length = 2) : bindArgs (PySem.W.fnOf "times" "times" (defArgs (topS 9)) (defBody (topS 9)) (defScope (topS 9)) .none kV doc pm an cdv ct) ⟨us, []⟩ = pure ((["a", "b"] : List Str).zip us) := match us, hl with | [_, _], _ => rfl
theorem e4 {w : World} {K : PySem.W.Frag} {h : Heap} {mg : Str → Option Value} (X : K.In h) (G : h.Ns mainGlobals mg) {f4 : Addr} {od4 an4 : Option Addr} {sl4 : Array (Option Value)} {oc4 kV4 dc4 pm4 cd4 ct4 : Value} (a4 : PySem.W.nsIn K mainGlobals "times" = some (some (.ref f4))) (l4 : K.lookup f4 = some ⟨oc4, od4, .func (PySem.W.fnOf "times" "times" (defArgs (topS 9)) (defBody (topS 9)) (defScope (topS 9)) .none kV4 dc4 pm4 an4 cd4 ct4), sl4⟩) (c4 : PySem.W.codeIn K cd4 "times" = true) (k4 : PySem.W.keepIn K (.ref f4) = true) : EntOk K mg ent4 :=
  ent_mk (w := w) (e := ent4) X G a4 l4 c4 k4 rfl b4
theorem b5 (kV doc pm : Value) (an : Option Addr) (cdv ct : Value) (us : List Value) (hl : us.length = 2) : bindArgs (PySem.W.fnOf "over" "over" (defArgs (topS 10)) (defBody (topS 10)) (defScope (topS 10)) .none kV doc pm an cdv ct) ⟨us, []⟩ = pure ((["a", "b"] : List Str).zip us) := match us, hl with | [_, _], _ => rfl
theorem e5 {w : World} {K : PySem.W.Frag} {h : Heap} {mg : Str → Option Value} (X : K.In h) (G : h.Ns mainGlobals mg) {f5 : Addr} {od5 an5 : Option Addr} {sl5 : Array (Option Value)} {oc5 kV5 dc5 pm5 cd5 ct5 : Value} (a5 : PySem.W.nsIn K mainGlobals "over" = some (some (.ref f5))) (l5 : K.lookup f5 = some ⟨oc5, od5, .func (PySem.W.fnOf "over" "over" (defArgs (topS 10)) (defBody (topS 10)) (defScope (topS 10)) .none kV5 dc5 pm5 an5 cd5 ct5), sl5⟩) (c5 : PySem.W.codeIn K cd5 "over" = true) (k5 : PySem.W.keepIn K (.ref f5) = true) : EntOk K mg ent5 :=
  ent_mk (w := w) (e := ent5) X G a5 l5 c5 k5 rfl b5
theorem b6 (kV doc pm : Value) (an : Option Addr) (cdv ct : Value) (us : List Value) (hl : us.length = 2) : bindArgs (PySem.W.fnOf "less" "less" (defArgs (topS 11)) (defBody (topS 11)) (defScope (topS 11)) .none kV doc pm an cdv ct) ⟨us, []⟩ = pure ((["a", "b"] : List Str).zip us) := match us, hl with | [_, _], _ => rfl
theorem e6 {w : World} {K : PySem.W.Frag} {h : Heap} {mg : Str → Option Value} (X : K.In h) (G : h.Ns mainGlobals mg) {f6 : Addr} {od6 an6 : Option Addr} {sl6 : Array (Option Value)} {oc6 kV6 dc6 pm6 cd6 ct6 : Value} (a6 : PySem.W.nsIn K mainGlobals "less" = some (some (.ref f6))) (l6 : K.lookup f6 = some ⟨oc6, od6, .func (PySem.W.fnOf "less" "less" (defArgs (topS 11)) (defBody (topS 11)) (defScope (topS 11)) .none kV6 dc6 pm6 an6 cd6 ct6), sl6⟩) (c6 : PySem.W.codeIn K cd6 "less" = true) (k6 : PySem.W.keepIn K (.ref f6) = true) : EntOk K mg ent6 :=
  ent_mk (w := w) (e := ent6) X G a6 l6 c6 k6 rfl b6
theorem b7 (kV doc pm : Value) (an : Option Addr) (cdv ct : Value) (us : List Value) (hl : us.length = 1) : bindArgs (PySem.W.fnOf "sign" "sign" (defArgs (topS 12)) (defBody (topS 12)) (defScope (topS 12)) .none kV doc pm an cdv ct) ⟨us, []⟩ = pure ((["a"] : List Str).zip us) := match us, hl with | [_], _ => rfl
theorem e7 {w : World} {K : PySem.W.Frag} {h : Heap} {mg : Str → Option Value} (X : K.In h) (G : h.Ns mainGlobals mg) {f7 : Addr} {od7 an7 : Option Addr} {sl7 : Array (Option Value)} {oc7 kV7 dc7 pm7 cd7 ct7 : Value} (a7 : PySem.W.nsIn K mainGlobals "sign" = some (some (.ref f7))) (l7 : K.lookup f7 = some ⟨oc7, od7, .func (PySem.W.fnOf "sign" "sign" (defArgs (topS 12)) (defBody (topS 12)) (defScope (topS 12)) .none kV7 dc7 pm7 an7 cd7 ct7), sl7⟩) (c7 : PySem.W.codeIn K cd7 "sign" = true) (k7 : PySem.W.keepIn K (.ref f7) = true) : EntOk K mg ent7 :=
  ent_mk (w := w) (e := ent7) X G a7 l7 c7 k7 rfl b7
theorem b8 (kV doc pm : Value) (an : Option Addr) (cdv ct : Value) (us : List Value) (hl : us.length = 3) : bindArgs (PySem.W.fnOf "turn" "turn" (defArgs (topS 14)) (defBody (topS 14)) (defScope (topS 14)) .none kV doc pm an cdv ct) ⟨us, []⟩ = pure ((["a", "b", "c"] : List Str).zip us) := match us, hl with | [_, _, _], _ => rfl
theorem e8 {w : World} {K : PySem.W.Frag} {h : Heap} {mg : Str → Option Value} (X : K.In h) (G : h.Ns mainGlobals mg) {f8 : Addr} {od8 an8 : Option Addr} {sl8 : Array (Option Value)} {oc8 kV8 dc8 pm8 cd8 ct8 : Value} (a8 : PySem.W.nsIn K mainGlobals "turn" = some (some (.ref f8))) (l8 : K.lookup f8 = some ⟨oc8, od8, .func (PySem.W.fnOf "turn" "turn" (defArgs (topS 14)) (defBody (topS 14)) (defScope (topS 14)) .none kV8 dc8 pm8 an8 cd8 ct8), sl8⟩) (c8 : PySem.W.codeIn K cd8 "turn" = true) (k8 : PySem.W.keepIn K (.ref f8) = true) : EntOk K mg ent8 :=
  ent_mk (w := w) (e := ent8) X G a8 l8 c8 k8 rfl b8
theorem b9 (kV doc pm : Value) (an : Option Addr) (cdv ct : Value) (us : List Value) (hl : us.length = 2) : bindArgs (PySem.W.fnOf "smaller" "smaller" (defArgs (topS 15)) (defBody (topS 15)) (defScope (topS 15)) .none kV doc pm an cdv ct) ⟨us, []⟩ = pure ((["a", "b"] : List Str).zip us) := match us, hl with | [_, _], _ => rfl
theorem e9 {w : World} {K : PySem.W.Frag} {h : Heap} {mg : Str → Option Value} (X : K.In h) (G : h.Ns mainGlobals mg) {f9 : Addr} {od9 an9 : Option Addr} {sl9 : Array (Option Value)} {oc9 kV9 dc9 pm9 cd9 ct9 : Value} (a9 : PySem.W.nsIn K mainGlobals "smaller" = some (some (.ref f9))) (l9 : K.lookup f9 = some ⟨oc9, od9, .func (PySem.W.fnOf "smaller" "smaller" (defArgs (topS 15)) (defBody (topS 15)) (defScope (topS 15)) .none kV9 dc9 pm9 an9 cd9 ct9), sl9⟩) (c9 : PySem.W.codeIn K cd9 "smaller" = true) (k9 : PySem.W.keepIn K (.ref f9) = true) : EntOk K mg ent9 :=
  ent_mk (w := w) (e := ent9) X G a9 l9 c9 k9 rfl b9
theorem b10 (kV doc pm : Value) (an : Option Addr) (cdv ct : Value) (us : List Value) (hl : us.length = 2) : bindArgs (PySem.W.fnOf "put_in" "put_in" (defArgs (topS 17)) (defBody (topS 17)) (defScope (topS 17)) .none kV doc pm an cdv ct) ⟨us, []⟩ = pure ((["point", "row"] : List Str).zip us) := match us, hl with | [_, _], _ => rfl
theorem e10 {w : World} {K : PySem.W.Frag} {h : Heap} {mg : Str → Option Value} (X : K.In h) (G : h.Ns mainGlobals mg) {f10 : Addr} {od10 an10 : Option Addr} {sl10 : Array (Option Value)} {oc10 kV10 dc10 pm10 cd10 ct10 : Value} (a10 : PySem.W.nsIn K mainGlobals "put_in" = some (some (.ref f10))) (l10 : K.lookup f10 = some ⟨oc10, od10, .func (PySem.W.fnOf "put_in" "put_in" (defArgs (topS 17)) (defBody (topS 17)) (defScope (topS 17)) .none kV10 dc10 pm10 an10 cd10 ct10), sl10⟩) (c10 : PySem.W.codeIn K cd10 "put_in" = true) (k10 : PySem.W.keepIn K (.ref f10) = true) : EntOk K mg ent10 :=
  ent_mk (w := w) (e := ent10) X G a10 l10 c10 k10 rfl b10
theorem b11 (kV doc pm : Value) (an : Option Addr) (cdv ct : Value) (us : List Value) (hl : us.length = 1) : bindArgs (PySem.W.fnOf "chain" "chain" (defArgs (topS 18)) (defBody (topS 18)) (defScope (topS 18)) .none kV doc pm an cdv ct) ⟨us, []⟩ = pure ((["row"] : List Str).zip us) := match us, hl with | [_], _ => rfl
theorem e11 {w : World} {K : PySem.W.Frag} {h : Heap} {mg : Str → Option Value} (X : K.In h) (G : h.Ns mainGlobals mg) {f11 : Addr} {od11 an11 : Option Addr} {sl11 : Array (Option Value)} {oc11 kV11 dc11 pm11 cd11 ct11 : Value} (a11 : PySem.W.nsIn K mainGlobals "chain" = some (some (.ref f11))) (l11 : K.lookup f11 = some ⟨oc11, od11, .func (PySem.W.fnOf "chain" "chain" (defArgs (topS 18)) (defBody (topS 18)) (defScope (topS 18)) .none kV11 dc11 pm11 an11 cd11 ct11), sl11⟩) (c11 : PySem.W.codeIn K cd11 "chain" = true) (k11 : PySem.W.keepIn K (.ref f11) = true) : EntOk K mg ent11 :=
  ent_mk (w := w) (e := ent11) X G a11 l11 c11 k11 rfl b11
theorem b12 (kV doc pm : Value) (an : Option Addr) (cdv ct : Value) (us : List Value) (hl : us.length = 1) : bindArgs (PySem.W.fnOf "hull" "hull" (defArgs (topS 19)) (defBody (topS 19)) (defScope (topS 19)) .none kV doc pm an cdv ct) ⟨us, []⟩ = pure ((["points"] : List Str).zip us) := match us, hl with | [_], _ => rfl
theorem e12 {w : World} {K : PySem.W.Frag} {h : Heap} {mg : Str → Option Value} (X : K.In h) (G : h.Ns mainGlobals mg) {f12 : Addr} {od12 an12 : Option Addr} {sl12 : Array (Option Value)} {oc12 kV12 dc12 pm12 cd12 ct12 : Value} (a12 : PySem.W.nsIn K mainGlobals "hull" = some (some (.ref f12))) (l12 : K.lookup f12 = some ⟨oc12, od12, .func (PySem.W.fnOf "hull" "hull" (defArgs (topS 19)) (defBody (topS 19)) (defScope (topS 19)) .none kV12 dc12 pm12 an12 cd12 ct12), sl12⟩) (c12 : PySem.W.codeIn K cd12 "hull" = true) (k12 : PySem.W.keepIn K (.ref f12) = true) : EntOk K mg ent12 :=
  ent_mk (w := w) (e := ent12) X G a12 l12 c12 k12 rfl b12
theorem b13 (kV doc pm : Value) (an : Option Addr) (cdv ct : Value) (us : List Value) (hl : us.length = 1) : bindArgs (PySem.W.fnOf "size_of" "size_of" (defArgs (topS 20)) (defBody (topS 20)) (defScope (topS 20)) .none kV doc pm an cdv ct) ⟨us, []⟩ = pure ((["polygon"] : List Str).zip us) := match us, hl with | [_], _ => rfl
theorem e13 {w : World} {K : PySem.W.Frag} {h : Heap} {mg : Str → Option Value} (X : K.In h) (G : h.Ns mainGlobals mg) {f13 : Addr} {od13 an13 : Option Addr} {sl13 : Array (Option Value)} {oc13 kV13 dc13 pm13 cd13 ct13 : Value} (a13 : PySem.W.nsIn K mainGlobals "size_of" = some (some (.ref f13))) (l13 : K.lookup f13 = some ⟨oc13, od13, .func (PySem.W.fnOf "size_of" "size_of" (defArgs (topS 20)) (defBody (topS 20)) (defScope (topS 20)) .none kV13 dc13 pm13 an13 cd13 ct13), sl13⟩) (c13 : PySem.W.codeIn K cd13 "size_of" = true) (k13 : PySem.W.keepIn K (.ref f13) = true) : EntOk K mg ent13 :=
  ent_mk (w := w) (e := ent13) X G a13 l13 c13 k13 rfl b13
theorem b14 (kV doc pm : Value) (an : Option Addr) (cdv ct : Value) (us : List Value) (hl : us.length = 4) : bindArgs (PySem.W.fnOf "crossing" "crossing" (defArgs (topS 21)) (defBody (topS 21)) (defScope (topS 21)) .none kV doc pm an cdv ct) ⟨us, []⟩ = pure ((["a", "b", "at_a", "at_b"] : List Str).zip us) := match us, hl with | [_, _, _, _], _ => rfl
theorem e14 {w : World} {K : PySem.W.Frag} {h : Heap} {mg : Str → Option Value} (X : K.In h) (G : h.Ns mainGlobals mg) {f14 : Addr} {od14 an14 : Option Addr} {sl14 : Array (Option Value)} {oc14 kV14 dc14 pm14 cd14 ct14 : Value} (a14 : PySem.W.nsIn K mainGlobals "crossing" = some (some (.ref f14))) (l14 : K.lookup f14 = some ⟨oc14, od14, .func (PySem.W.fnOf "crossing" "crossing" (defArgs (topS 21)) (defBody (topS 21)) (defScope (topS 21)) .none kV14 dc14 pm14 an14 cd14 ct14), sl14⟩) (c14 : PySem.W.codeIn K cd14 "crossing" = true) (k14 : PySem.W.keepIn K (.ref f14) = true) : EntOk K mg ent14 :=
  ent_mk (w := w) (e := ent14) X G a14 l14 c14 k14 rfl b14
theorem b15 (kV doc pm : Value) (an : Option Addr) (cdv ct : Value) (us : List Value) (hl : us.length = 3) : bindArgs (PySem.W.fnOf "left_of" "left_of" (defArgs (topS 22)) (defBody (topS 22)) (defScope (topS 22)) .none kV doc pm an cdv ct) ⟨us, []⟩ = pure ((["polygon", "start", "end"] : List Str).zip us) := match us, hl with | [_, _, _], _ => rfl
theorem e15 {w : World} {K : PySem.W.Frag} {h : Heap} {mg : Str → Option Value} (X : K.In h) (G : h.Ns mainGlobals mg) {f15 : Addr} {od15 an15 : Option Addr} {sl15 : Array (Option Value)} {oc15 kV15 dc15 pm15 cd15 ct15 : Value} (a15 : PySem.W.nsIn K mainGlobals "left_of" = some (some (.ref f15))) (l15 : K.lookup f15 = some ⟨oc15, od15, .func (PySem.W.fnOf "left_of" "left_of" (defArgs (topS 22)) (defBody (topS 22)) (defScope (topS 22)) .none kV15 dc15 pm15 an15 cd15 ct15), sl15⟩) (c15 : PySem.W.codeIn K cd15 "left_of" = true) (k15 : PySem.W.keepIn K (.ref f15) = true) : EntOk K mg ent15 :=
  ent_mk (w := w) (e := ent15) X G a15 l15 c15 k15 rfl b15
theorem b16 (kV doc pm : Value) (an : Option Addr) (cdv ct : Value) (us : List Value) (hl : us.length = 1) : bindArgs (PySem.W.fnOf "sides_of" "sides_of" (defArgs (topS 23)) (defBody (topS 23)) (defScope (topS 23)) .none kV doc pm an cdv ct) ⟨us, []⟩ = pure ((["polygon"] : List Str).zip us) := match us, hl with | [_], _ => rfl
theorem e16 {w : World} {K : PySem.W.Frag} {h : Heap} {mg : Str → Option Value} (X : K.In h) (G : h.Ns mainGlobals mg) {f16 : Addr} {od16 an16 : Option Addr} {sl16 : Array (Option Value)} {oc16 kV16 dc16 pm16 cd16 ct16 : Value} (a16 : PySem.W.nsIn K mainGlobals "sides_of" = some (some (.ref f16))) (l16 : K.lookup f16 = some ⟨oc16, od16, .func (PySem.W.fnOf "sides_of" "sides_of" (defArgs (topS 23)) (defBody (topS 23)) (defScope (topS 23)) .none kV16 dc16 pm16 an16 cd16 ct16), sl16⟩) (c16 : PySem.W.codeIn K cd16 "sides_of" = true) (k16 : PySem.W.keepIn K (.ref f16) = true) : EntOk K mg ent16 :=
  ent_mk (w := w) (e := ent16) X G a16 l16 c16 k16 rfl b16
theorem b17 (kV doc pm : Value) (an : Option Addr) (cdv ct : Value) (us : List Value) (hl : us.length = 2) : bindArgs (PySem.W.fnOf "common" "common" (defArgs (topS 24)) (defBody (topS 24)) (defScope (topS 24)) .none kV doc pm an cdv ct) ⟨us, []⟩ = pure ((["polygon", "other"] : List Str).zip us) := match us, hl with | [_, _], _ => rfl
theorem e17 {w : World} {K : PySem.W.Frag} {h : Heap} {mg : Str → Option Value} (X : K.In h) (G : h.Ns mainGlobals mg) {f17 : Addr} {od17 an17 : Option Addr} {sl17 : Array (Option Value)} {oc17 kV17 dc17 pm17 cd17 ct17 : Value} (a17 : PySem.W.nsIn K mainGlobals "common_polygons" = some (some (.ref f17))) (l17 : K.lookup f17 = some ⟨oc17, od17, .func (PySem.W.fnOf "common" "common" (defArgs (topS 24)) (defBody (topS 24)) (defScope (topS 24)) .none kV17 dc17 pm17 an17 cd17 ct17), sl17⟩) (c17 : PySem.W.codeIn K cd17 "common" = true) (k17 : PySem.W.keepIn K (.ref f17) = true) : EntOk K mg ent17 :=
  ent_mk (w := w) (e := ent17) X G a17 l17 c17 k17 rfl b17
theorem b18 (kV doc pm : Value) (an : Option Addr) (cdv ct : Value) (us : List Value) (hl : us.length = 2) : bindArgs (PySem.W.fnOf "cut_out" "cut_out" (defArgs (topS 26)) (defBody (topS 26)) (defScope (topS 26)) .none kV doc pm an cdv ct) ⟨us, []⟩ = pure ((["polygon", "other"] : List Str).zip us) := match us, hl with | [_, _], _ => rfl
theorem e18 {w : World} {K : PySem.W.Frag} {h : Heap} {mg : Str → Option Value} (X : K.In h) (G : h.Ns mainGlobals mg) {f18 : Addr} {od18 an18 : Option Addr} {sl18 : Array (Option Value)} {oc18 kV18 dc18 pm18 cd18 ct18 : Value} (a18 : PySem.W.nsIn K mainGlobals "cut_out" = some (some (.ref f18))) (l18 : K.lookup f18 = some ⟨oc18, od18, .func (PySem.W.fnOf "cut_out" "cut_out" (defArgs (topS 26)) (defBody (topS 26)) (defScope (topS 26)) .none kV18 dc18 pm18 an18 cd18 ct18), sl18⟩) (c18 : PySem.W.codeIn K cd18 "cut_out" = true) (k18 : PySem.W.keepIn K (.ref f18) = true) : EntOk K mg ent18 :=
  ent_mk (w := w) (e := ent18) X G a18 l18 c18 k18 rfl b18
theorem b19 (kV doc pm : Value) (an : Option Addr) (cdv ct : Value) (us : List Value) (hl : us.length = 2) : bindArgs (PySem.W.fnOf "without" "without" (defArgs (topS 27)) (defBody (topS 27)) (defScope (topS 27)) .none kV doc pm an cdv ct) ⟨us, []⟩ = pure ((["polygon", "others"] : List Str).zip us) := match us, hl with | [_, _], _ => rfl
theorem e19 {w : World} {K : PySem.W.Frag} {h : Heap} {mg : Str → Option Value} (X : K.In h) (G : h.Ns mainGlobals mg) {f19 : Addr} {od19 an19 : Option Addr} {sl19 : Array (Option Value)} {oc19 kV19 dc19 pm19 cd19 ct19 : Value} (a19 : PySem.W.nsIn K mainGlobals "without" = some (some (.ref f19))) (l19 : K.lookup f19 = some ⟨oc19, od19, .func (PySem.W.fnOf "without" "without" (defArgs (topS 27)) (defBody (topS 27)) (defScope (topS 27)) .none kV19 dc19 pm19 an19 cd19 ct19), sl19⟩) (c19 : PySem.W.codeIn K cd19 "without" = true) (k19 : PySem.W.keepIn K (.ref f19) = true) : EntOk K mg ent19 :=
  ent_mk (w := w) (e := ent19) X G a19 l19 c19 k19 rfl b19
theorem b20 (kV doc pm : Value) (an : Option Addr) (cdv ct : Value) (us : List Value) (hl : us.length = 2) : bindArgs (PySem.W.fnOf "_law_cell" "_law_cell" (defArgs (topS 29)) (defBody (topS 29)) (defScope (topS 29)) .none kV doc pm an cdv ct) ⟨us, []⟩ = pure ((["script", "k"] : List Str).zip us) := match us, hl with | [_, _], _ => rfl
theorem e20 {w : World} {K : PySem.W.Frag} {h : Heap} {mg : Str → Option Value} (X : K.In h) (G : h.Ns mainGlobals mg) {f20 : Addr} {od20 an20 : Option Addr} {sl20 : Array (Option Value)} {oc20 kV20 dc20 pm20 cd20 ct20 : Value} (a20 : PySem.W.nsIn K mainGlobals "_law_cell" = some (some (.ref f20))) (l20 : K.lookup f20 = some ⟨oc20, od20, .func (PySem.W.fnOf "_law_cell" "_law_cell" (defArgs (topS 29)) (defBody (topS 29)) (defScope (topS 29)) .none kV20 dc20 pm20 an20 cd20 ct20), sl20⟩) (c20 : PySem.W.codeIn K cd20 "_law_cell" = true) (k20 : PySem.W.keepIn K (.ref f20) = true) : EntOk K mg ent20 :=
  ent_mk (w := w) (e := ent20) X G a20 l20 c20 k20 rfl b20
theorem b21 (kV doc pm : Value) (an : Option Addr) (cdv ct : Value) (us : List Value) (hl : us.length = 3) : bindArgs (PySem.W.fnOf "_law_row" "_law_row" (defArgs (topS 30)) (defBody (topS 30)) (defScope (topS 30)) .none kV doc pm an cdv ct) ⟨us, []⟩ = pure ((["cell", "size", "base"] : List Str).zip us) := match us, hl with | [_, _, _], _ => rfl
theorem e21 {w : World} {K : PySem.W.Frag} {h : Heap} {mg : Str → Option Value} (X : K.In h) (G : h.Ns mainGlobals mg) {f21 : Addr} {od21 an21 : Option Addr} {sl21 : Array (Option Value)} {oc21 kV21 dc21 pm21 cd21 ct21 : Value} (a21 : PySem.W.nsIn K mainGlobals "_law_row" = some (some (.ref f21))) (l21 : K.lookup f21 = some ⟨oc21, od21, .func (PySem.W.fnOf "_law_row" "_law_row" (defArgs (topS 30)) (defBody (topS 30)) (defScope (topS 30)) .none kV21 dc21 pm21 an21 cd21 ct21), sl21⟩) (c21 : PySem.W.codeIn K cd21 "_law_row" = true) (k21 : PySem.W.keepIn K (.ref f21) = true) : EntOk K mg ent21 :=
  ent_mk (w := w) (e := ent21) X G a21 l21 c21 k21 rfl b21
theorem b22 (kV doc pm : Value) (an : Option Addr) (cdv ct : Value) (us : List Value) (hl : us.length = 2) : bindArgs (PySem.W.fnOf "_law_fraction" "_law_fraction" (defArgs (topS 31)) (defBody (topS 31)) (defScope (topS 31)) .none kV doc pm an cdv ct) ⟨us, []⟩ = pure ((["number", "divisor"] : List Str).zip us) := match us, hl with | [_, _], _ => rfl
theorem e22 {w : World} {K : PySem.W.Frag} {h : Heap} {mg : Str → Option Value} (X : K.In h) (G : h.Ns mainGlobals mg) {f22 : Addr} {od22 an22 : Option Addr} {sl22 : Array (Option Value)} {oc22 kV22 dc22 pm22 cd22 ct22 : Value} (a22 : PySem.W.nsIn K mainGlobals "_law_fraction" = some (some (.ref f22))) (l22 : K.lookup f22 = some ⟨oc22, od22, .func (PySem.W.fnOf "_law_fraction" "_law_fraction" (defArgs (topS 31)) (defBody (topS 31)) (defScope (topS 31)) .none kV22 dc22 pm22 an22 cd22 ct22), sl22⟩) (c22 : PySem.W.codeIn K cd22 "_law_fraction" = true) (k22 : PySem.W.keepIn K (.ref f22) = true) : EntOk K mg ent22 :=
  ent_mk (w := w) (e := ent22) X G a22 l22 c22 k22 rfl b22
theorem b23 (kV doc pm : Value) (an : Option Addr) (cdv ct : Value) (us : List Value) (hl : us.length = 2) : bindArgs (PySem.W.fnOf "_law_plus" "_law_plus" (defArgs (topS 32)) (defBody (topS 32)) (defScope (topS 32)) .none kV doc pm an cdv ct) ⟨us, []⟩ = pure ((["a", "b"] : List Str).zip us) := match us, hl with | [_, _], _ => rfl
theorem e23 {w : World} {K : PySem.W.Frag} {h : Heap} {mg : Str → Option Value} (X : K.In h) (G : h.Ns mainGlobals mg) {f23 : Addr} {od23 an23 : Option Addr} {sl23 : Array (Option Value)} {oc23 kV23 dc23 pm23 cd23 ct23 : Value} (a23 : PySem.W.nsIn K mainGlobals "_law_plus" = some (some (.ref f23))) (l23 : K.lookup f23 = some ⟨oc23, od23, .func (PySem.W.fnOf "_law_plus" "_law_plus" (defArgs (topS 32)) (defBody (topS 32)) (defScope (topS 32)) .none kV23 dc23 pm23 an23 cd23 ct23), sl23⟩) (c23 : PySem.W.codeIn K cd23 "_law_plus" = true) (k23 : PySem.W.keepIn K (.ref f23) = true) : EntOk K mg ent23 :=
  ent_mk (w := w) (e := ent23) X G a23 l23 c23 k23 rfl b23
theorem b24 (kV doc pm : Value) (an : Option Addr) (cdv ct : Value) (us : List Value) (hl : us.length = 2) : bindArgs (PySem.W.fnOf "_law_minus" "_law_minus" (defArgs (topS 33)) (defBody (topS 33)) (defScope (topS 33)) .none kV doc pm an cdv ct) ⟨us, []⟩ = pure ((["a", "b"] : List Str).zip us) := match us, hl with | [_, _], _ => rfl
theorem e24 {w : World} {K : PySem.W.Frag} {h : Heap} {mg : Str → Option Value} (X : K.In h) (G : h.Ns mainGlobals mg) {f24 : Addr} {od24 an24 : Option Addr} {sl24 : Array (Option Value)} {oc24 kV24 dc24 pm24 cd24 ct24 : Value} (a24 : PySem.W.nsIn K mainGlobals "_law_minus" = some (some (.ref f24))) (l24 : K.lookup f24 = some ⟨oc24, od24, .func (PySem.W.fnOf "_law_minus" "_law_minus" (defArgs (topS 33)) (defBody (topS 33)) (defScope (topS 33)) .none kV24 dc24 pm24 an24 cd24 ct24), sl24⟩) (c24 : PySem.W.codeIn K cd24 "_law_minus" = true) (k24 : PySem.W.keepIn K (.ref f24) = true) : EntOk K mg ent24 :=
  ent_mk (w := w) (e := ent24) X G a24 l24 c24 k24 rfl b24
theorem b25 (kV doc pm : Value) (an : Option Addr) (cdv ct : Value) (us : List Value) (hl : us.length = 2) : bindArgs (PySem.W.fnOf "_law_times" "_law_times" (defArgs (topS 34)) (defBody (topS 34)) (defScope (topS 34)) .none kV doc pm an cdv ct) ⟨us, []⟩ = pure ((["a", "b"] : List Str).zip us) := match us, hl with | [_, _], _ => rfl
theorem e25 {w : World} {K : PySem.W.Frag} {h : Heap} {mg : Str → Option Value} (X : K.In h) (G : h.Ns mainGlobals mg) {f25 : Addr} {od25 an25 : Option Addr} {sl25 : Array (Option Value)} {oc25 kV25 dc25 pm25 cd25 ct25 : Value} (a25 : PySem.W.nsIn K mainGlobals "_law_times" = some (some (.ref f25))) (l25 : K.lookup f25 = some ⟨oc25, od25, .func (PySem.W.fnOf "_law_times" "_law_times" (defArgs (topS 34)) (defBody (topS 34)) (defScope (topS 34)) .none kV25 dc25 pm25 an25 cd25 ct25), sl25⟩) (c25 : PySem.W.codeIn K cd25 "_law_times" = true) (k25 : PySem.W.keepIn K (.ref f25) = true) : EntOk K mg ent25 :=
  ent_mk (w := w) (e := ent25) X G a25 l25 c25 k25 rfl b25
theorem b26 (kV doc pm : Value) (an : Option Addr) (cdv ct : Value) (us : List Value) (hl : us.length = 2) : bindArgs (PySem.W.fnOf "_law_over" "_law_over" (defArgs (topS 35)) (defBody (topS 35)) (defScope (topS 35)) .none kV doc pm an cdv ct) ⟨us, []⟩ = pure ((["a", "b"] : List Str).zip us) := match us, hl with | [_, _], _ => rfl
theorem e26 {w : World} {K : PySem.W.Frag} {h : Heap} {mg : Str → Option Value} (X : K.In h) (G : h.Ns mainGlobals mg) {f26 : Addr} {od26 an26 : Option Addr} {sl26 : Array (Option Value)} {oc26 kV26 dc26 pm26 cd26 ct26 : Value} (a26 : PySem.W.nsIn K mainGlobals "_law_over" = some (some (.ref f26))) (l26 : K.lookup f26 = some ⟨oc26, od26, .func (PySem.W.fnOf "_law_over" "_law_over" (defArgs (topS 35)) (defBody (topS 35)) (defScope (topS 35)) .none kV26 dc26 pm26 an26 cd26 ct26), sl26⟩) (c26 : PySem.W.codeIn K cd26 "_law_over" = true) (k26 : PySem.W.keepIn K (.ref f26) = true) : EntOk K mg ent26 :=
  ent_mk (w := w) (e := ent26) X G a26 l26 c26 k26 rfl b26
theorem b27 (kV doc pm : Value) (an : Option Addr) (cdv ct : Value) (us : List Value) (hl : us.length = 2) : bindArgs (PySem.W.fnOf "_law_less" "_law_less" (defArgs (topS 36)) (defBody (topS 36)) (defScope (topS 36)) .none kV doc pm an cdv ct) ⟨us, []⟩ = pure ((["a", "b"] : List Str).zip us) := match us, hl with | [_, _], _ => rfl
theorem e27 {w : World} {K : PySem.W.Frag} {h : Heap} {mg : Str → Option Value} (X : K.In h) (G : h.Ns mainGlobals mg) {f27 : Addr} {od27 an27 : Option Addr} {sl27 : Array (Option Value)} {oc27 kV27 dc27 pm27 cd27 ct27 : Value} (a27 : PySem.W.nsIn K mainGlobals "_law_less" = some (some (.ref f27))) (l27 : K.lookup f27 = some ⟨oc27, od27, .func (PySem.W.fnOf "_law_less" "_law_less" (defArgs (topS 36)) (defBody (topS 36)) (defScope (topS 36)) .none kV27 dc27 pm27 an27 cd27 ct27), sl27⟩) (c27 : PySem.W.codeIn K cd27 "_law_less" = true) (k27 : PySem.W.keepIn K (.ref f27) = true) : EntOk K mg ent27 :=
  ent_mk (w := w) (e := ent27) X G a27 l27 c27 k27 rfl b27
theorem b28 (kV doc pm : Value) (an : Option Addr) (cdv ct : Value) (us : List Value) (hl : us.length = 2) : bindArgs (PySem.W.fnOf "_law_middle" "_law_middle" (defArgs (topS 37)) (defBody (topS 37)) (defScope (topS 37)) .none kV doc pm an cdv ct) ⟨us, []⟩ = pure ((["a", "b"] : List Str).zip us) := match us, hl with | [_, _], _ => rfl
theorem e28 {w : World} {K : PySem.W.Frag} {h : Heap} {mg : Str → Option Value} (X : K.In h) (G : h.Ns mainGlobals mg) {f28 : Addr} {od28 an28 : Option Addr} {sl28 : Array (Option Value)} {oc28 kV28 dc28 pm28 cd28 ct28 : Value} (a28 : PySem.W.nsIn K mainGlobals "_law_middle" = some (some (.ref f28))) (l28 : K.lookup f28 = some ⟨oc28, od28, .func (PySem.W.fnOf "_law_middle" "_law_middle" (defArgs (topS 37)) (defBody (topS 37)) (defScope (topS 37)) .none kV28 dc28 pm28 an28 cd28 ct28), sl28⟩) (c28 : PySem.W.codeIn K cd28 "_law_middle" = true) (k28 : PySem.W.keepIn K (.ref f28) = true) : EntOk K mg ent28 :=
  ent_mk (w := w) (e := ent28) X G a28 l28 c28 k28 rfl b28
theorem b29 (kV doc pm : Value) (an : Option Addr) (cdv ct : Value) (us : List Value) (hl : us.length = 3) : bindArgs (PySem.W.fnOf "_law_turn" "_law_turn" (defArgs (topS 38)) (defBody (topS 38)) (defScope (topS 38)) .none kV doc pm an cdv ct) ⟨us, []⟩ = pure ((["a", "b", "c"] : List Str).zip us) := match us, hl with | [_, _, _], _ => rfl
theorem e29 {w : World} {K : PySem.W.Frag} {h : Heap} {mg : Str → Option Value} (X : K.In h) (G : h.Ns mainGlobals mg) {f29 : Addr} {od29 an29 : Option Addr} {sl29 : Array (Option Value)} {oc29 kV29 dc29 pm29 cd29 ct29 : Value} (a29 : PySem.W.nsIn K mainGlobals "_law_turn" = some (some (.ref f29))) (l29 : K.lookup f29 = some ⟨oc29, od29, .func (PySem.W.fnOf "_law_turn" "_law_turn" (defArgs (topS 38)) (defBody (topS 38)) (defScope (topS 38)) .none kV29 dc29 pm29 an29 cd29 ct29), sl29⟩) (c29 : PySem.W.codeIn K cd29 "_law_turn" = true) (k29 : PySem.W.keepIn K (.ref f29) = true) : EntOk K mg ent29 :=
  ent_mk (w := w) (e := ent29) X G a29 l29 c29 k29 rfl b29
theorem b30 (kV doc pm : Value) (an : Option Addr) (cdv ct : Value) (us : List Value) (hl : us.length = 3) : bindArgs (PySem.W.fnOf "_law_is_side" "_law_is_side" (defArgs (topS 39)) (defBody (topS 39)) (defScope (topS 39)) .none kV doc pm an cdv ct) ⟨us, []⟩ = pure ((["points", "a", "b"] : List Str).zip us) := match us, hl with | [_, _, _], _ => rfl
theorem e30 {w : World} {K : PySem.W.Frag} {h : Heap} {mg : Str → Option Value} (X : K.In h) (G : h.Ns mainGlobals mg) {f30 : Addr} {od30 an30 : Option Addr} {sl30 : Array (Option Value)} {oc30 kV30 dc30 pm30 cd30 ct30 : Value} (a30 : PySem.W.nsIn K mainGlobals "_law_is_side" = some (some (.ref f30))) (l30 : K.lookup f30 = some ⟨oc30, od30, .func (PySem.W.fnOf "_law_is_side" "_law_is_side" (defArgs (topS 39)) (defBody (topS 39)) (defScope (topS 39)) .none kV30 dc30 pm30 an30 cd30 ct30), sl30⟩) (c30 : PySem.W.codeIn K cd30 "_law_is_side" = true) (k30 : PySem.W.keepIn K (.ref f30) = true) : EntOk K mg ent30 :=
  ent_mk (w := w) (e := ent30) X G a30 l30 c30 k30 rfl b30
theorem b31 (kV doc pm : Value) (an : Option Addr) (cdv ct : Value) (us : List Value) (hl : us.length = 1) : bindArgs (PySem.W.fnOf "_law_hull" "_law_hull" (defArgs (topS 40)) (defBody (topS 40)) (defScope (topS 40)) .none kV doc pm an cdv ct) ⟨us, []⟩ = pure ((["points"] : List Str).zip us) := match us, hl with | [_], _ => rfl
theorem e31 {w : World} {K : PySem.W.Frag} {h : Heap} {mg : Str → Option Value} (X : K.In h) (G : h.Ns mainGlobals mg) {f31 : Addr} {od31 an31 : Option Addr} {sl31 : Array (Option Value)} {oc31 kV31 dc31 pm31 cd31 ct31 : Value} (a31 : PySem.W.nsIn K mainGlobals "_law_hull" = some (some (.ref f31))) (l31 : K.lookup f31 = some ⟨oc31, od31, .func (PySem.W.fnOf "_law_hull" "_law_hull" (defArgs (topS 40)) (defBody (topS 40)) (defScope (topS 40)) .none kV31 dc31 pm31 an31 cd31 ct31), sl31⟩) (c31 : PySem.W.codeIn K cd31 "_law_hull" = true) (k31 : PySem.W.keepIn K (.ref f31) = true) : EntOk K mg ent31 :=
  ent_mk (w := w) (e := ent31) X G a31 l31 c31 k31 rfl b31
theorem b32 (kV doc pm : Value) (an : Option Addr) (cdv ct : Value) (us : List Value) (hl : us.length = 1) : bindArgs (PySem.W.fnOf "_law_other" "_law_other" (defArgs (topS 41)) (defBody (topS 41)) (defScope (topS 41)) .none kV doc pm an cdv ct) ⟨us, []⟩ = pure ((["points"] : List Str).zip us) := match us, hl with | [_], _ => rfl
theorem e32 {w : World} {K : PySem.W.Frag} {h : Heap} {mg : Str → Option Value} (X : K.In h) (G : h.Ns mainGlobals mg) {f32 : Addr} {od32 an32 : Option Addr} {sl32 : Array (Option Value)} {oc32 kV32 dc32 pm32 cd32 ct32 : Value} (a32 : PySem.W.nsIn K mainGlobals "_law_other" = some (some (.ref f32))) (l32 : K.lookup f32 = some ⟨oc32, od32, .func (PySem.W.fnOf "_law_other" "_law_other" (defArgs (topS 41)) (defBody (topS 41)) (defScope (topS 41)) .none kV32 dc32 pm32 an32 cd32 ct32), sl32⟩) (c32 : PySem.W.codeIn K cd32 "_law_other" = true) (k32 : PySem.W.keepIn K (.ref f32) = true) : EntOk K mg ent32 :=
  ent_mk (w := w) (e := ent32) X G a32 l32 c32 k32 rfl b32
theorem b33 (kV doc pm : Value) (an : Option Addr) (cdv ct : Value) (us : List Value) (hl : us.length = 1) : bindArgs (PySem.W.fnOf "_law_least" "_law_least" (defArgs (topS 42)) (defBody (topS 42)) (defScope (topS 42)) .none kV doc pm an cdv ct) ⟨us, []⟩ = pure ((["points"] : List Str).zip us) := match us, hl with | [_], _ => rfl
theorem e33 {w : World} {K : PySem.W.Frag} {h : Heap} {mg : Str → Option Value} (X : K.In h) (G : h.Ns mainGlobals mg) {f33 : Addr} {od33 an33 : Option Addr} {sl33 : Array (Option Value)} {oc33 kV33 dc33 pm33 cd33 ct33 : Value} (a33 : PySem.W.nsIn K mainGlobals "_law_least" = some (some (.ref f33))) (l33 : K.lookup f33 = some ⟨oc33, od33, .func (PySem.W.fnOf "_law_least" "_law_least" (defArgs (topS 42)) (defBody (topS 42)) (defScope (topS 42)) .none kV33 dc33 pm33 an33 cd33 ct33), sl33⟩) (c33 : PySem.W.codeIn K cd33 "_law_least" = true) (k33 : PySem.W.keepIn K (.ref f33) = true) : EntOk K mg ent33 :=
  ent_mk (w := w) (e := ent33) X G a33 l33 c33 k33 rfl b33
theorem b34 (kV doc pm : Value) (an : Option Addr) (cdv ct : Value) (us : List Value) (hl : us.length = 1) : bindArgs (PySem.W.fnOf "_law_twice" "_law_twice" (defArgs (topS 43)) (defBody (topS 43)) (defScope (topS 43)) .none kV doc pm an cdv ct) ⟨us, []⟩ = pure ((["polygon"] : List Str).zip us) := match us, hl with | [_], _ => rfl
theorem e34 {w : World} {K : PySem.W.Frag} {h : Heap} {mg : Str → Option Value} (X : K.In h) (G : h.Ns mainGlobals mg) {f34 : Addr} {od34 an34 : Option Addr} {sl34 : Array (Option Value)} {oc34 kV34 dc34 pm34 cd34 ct34 : Value} (a34 : PySem.W.nsIn K mainGlobals "_law_twice" = some (some (.ref f34))) (l34 : K.lookup f34 = some ⟨oc34, od34, .func (PySem.W.fnOf "_law_twice" "_law_twice" (defArgs (topS 43)) (defBody (topS 43)) (defScope (topS 43)) .none kV34 dc34 pm34 an34 cd34 ct34), sl34⟩) (c34 : PySem.W.codeIn K cd34 "_law_twice" = true) (k34 : PySem.W.keepIn K (.ref f34) = true) : EntOk K mg ent34 :=
  ent_mk (w := w) (e := ent34) X G a34 l34 c34 k34 rfl b34
theorem b35 (kV doc pm : Value) (an : Option Addr) (cdv ct : Value) (us : List Value) (hl : us.length = 3) : bindArgs (PySem.W.fnOf "_law_clip" "_law_clip" (defArgs (topS 44)) (defBody (topS 44)) (defScope (topS 44)) .none kV doc pm an cdv ct) ⟨us, []⟩ = pure ((["polygon", "start", "end"] : List Str).zip us) := match us, hl with | [_, _, _], _ => rfl
theorem e35 {w : World} {K : PySem.W.Frag} {h : Heap} {mg : Str → Option Value} (X : K.In h) (G : h.Ns mainGlobals mg) {f35 : Addr} {od35 an35 : Option Addr} {sl35 : Array (Option Value)} {oc35 kV35 dc35 pm35 cd35 ct35 : Value} (a35 : PySem.W.nsIn K mainGlobals "_law_clip" = some (some (.ref f35))) (l35 : K.lookup f35 = some ⟨oc35, od35, .func (PySem.W.fnOf "_law_clip" "_law_clip" (defArgs (topS 44)) (defBody (topS 44)) (defScope (topS 44)) .none kV35 dc35 pm35 an35 cd35 ct35), sl35⟩) (c35 : PySem.W.codeIn K cd35 "_law_clip" = true) (k35 : PySem.W.keepIn K (.ref f35) = true) : EntOk K mg ent35 :=
  ent_mk (w := w) (e := ent35) X G a35 l35 c35 k35 rfl b35
theorem b36 (kV doc pm : Value) (an : Option Addr) (cdv ct : Value) (us : List Value) (hl : us.length = 1) : bindArgs (PySem.W.fnOf "_law_shared" "_law_shared" (defArgs (topS 45)) (defBody (topS 45)) (defScope (topS 45)) .none kV doc pm an cdv ct) ⟨us, []⟩ = pure ((["polygons"] : List Str).zip us) := match us, hl with | [_], _ => rfl
theorem e36 {w : World} {K : PySem.W.Frag} {h : Heap} {mg : Str → Option Value} (X : K.In h) (G : h.Ns mainGlobals mg) {f36 : Addr} {od36 an36 : Option Addr} {sl36 : Array (Option Value)} {oc36 kV36 dc36 pm36 cd36 ct36 : Value} (a36 : PySem.W.nsIn K mainGlobals "_law_shared" = some (some (.ref f36))) (l36 : K.lookup f36 = some ⟨oc36, od36, .func (PySem.W.fnOf "_law_shared" "_law_shared" (defArgs (topS 45)) (defBody (topS 45)) (defScope (topS 45)) .none kV36 dc36 pm36 an36 cd36 ct36), sl36⟩) (c36 : PySem.W.codeIn K cd36 "_law_shared" = true) (k36 : PySem.W.keepIn K (.ref f36) = true) : EntOk K mg ent36 :=
  ent_mk (w := w) (e := ent36) X G a36 l36 c36 k36 rfl b36
theorem b37 (kV doc pm : Value) (an : Option Addr) (cdv ct : Value) (us : List Value) (hl : us.length = 1) : bindArgs (PySem.W.fnOf "_law_points" "_law_points" (defArgs (topS 46)) (defBody (topS 46)) (defScope (topS 46)) .none kV doc pm an cdv ct) ⟨us, []⟩ = pure ((["script"] : List Str).zip us) := match us, hl with | [_], _ => rfl
theorem e37 {w : World} {K : PySem.W.Frag} {h : Heap} {mg : Str → Option Value} (X : K.In h) (G : h.Ns mainGlobals mg) {f37 : Addr} {od37 an37 : Option Addr} {sl37 : Array (Option Value)} {oc37 kV37 dc37 pm37 cd37 ct37 : Value} (a37 : PySem.W.nsIn K mainGlobals "_law_points" = some (some (.ref f37))) (l37 : K.lookup f37 = some ⟨oc37, od37, .func (PySem.W.fnOf "_law_points" "_law_points" (defArgs (topS 46)) (defBody (topS 46)) (defScope (topS 46)) .none kV37 dc37 pm37 an37 cd37 ct37), sl37⟩) (c37 : PySem.W.codeIn K cd37 "_law_points" = true) (k37 : PySem.W.keepIn K (.ref f37) = true) : EntOk K mg ent37 :=
  ent_mk (w := w) (e := ent37) X G a37 l37 c37 k37 rfl b37
theorem b38 (kV doc pm : Value) (an : Option Addr) (cdv ct : Value) (us : List Value) (hl : us.length = 1) : bindArgs (PySem.W.fnOf "_law_shoelace" "_law_shoelace" (defArgs (topS 47)) (defBody (topS 47)) (defScope (topS 47)) .none kV doc pm an cdv ct) ⟨us, []⟩ = pure ((["row"] : List Str).zip us) := match us, hl with | [_], _ => rfl
theorem e38 {w : World} {K : PySem.W.Frag} {h : Heap} {mg : Str → Option Value} (X : K.In h) (G : h.Ns mainGlobals mg) {f38 : Addr} {od38 an38 : Option Addr} {sl38 : Array (Option Value)} {oc38 kV38 dc38 pm38 cd38 ct38 : Value} (a38 : PySem.W.nsIn K mainGlobals "_law_shoelace" = some (some (.ref f38))) (l38 : K.lookup f38 = some ⟨oc38, od38, .func (PySem.W.fnOf "_law_shoelace" "_law_shoelace" (defArgs (topS 47)) (defBody (topS 47)) (defScope (topS 47)) .none kV38 dc38 pm38 an38 cd38 ct38), sl38⟩) (c38 : PySem.W.codeIn K cd38 "_law_shoelace" = true) (k38 : PySem.W.keepIn K (.ref f38) = true) : EntOk K mg ent38 :=
  ent_mk (w := w) (e := ent38) X G a38 l38 c38 k38 rfl b38
theorem b39 (kV doc pm : Value) (an : Option Addr) (cdv ct : Value) (us : List Value) (hl : us.length = 1) : bindArgs (PySem.W.fnOf "_law_right_hull" "_law_right_hull" (defArgs (topS 48)) (defBody (topS 48)) (defScope (topS 48)) .none kV doc pm an cdv ct) ⟨us, []⟩ = pure ((["points"] : List Str).zip us) := match us, hl with | [_], _ => rfl
theorem e39 {w : World} {K : PySem.W.Frag} {h : Heap} {mg : Str → Option Value} (X : K.In h) (G : h.Ns mainGlobals mg) {f39 : Addr} {od39 an39 : Option Addr} {sl39 : Array (Option Value)} {oc39 kV39 dc39 pm39 cd39 ct39 : Value} (a39 : PySem.W.nsIn K mainGlobals "_law_right_hull" = some (some (.ref f39))) (l39 : K.lookup f39 = some ⟨oc39, od39, .func (PySem.W.fnOf "_law_right_hull" "_law_right_hull" (defArgs (topS 48)) (defBody (topS 48)) (defScope (topS 48)) .none kV39 dc39 pm39 an39 cd39 ct39), sl39⟩) (c39 : PySem.W.codeIn K cd39 "_law_right_hull" = true) (k39 : PySem.W.keepIn K (.ref f39) = true) : EntOk K mg ent39 :=
  ent_mk (w := w) (e := ent39) X G a39 l39 c39 k39 rfl b39
theorem b40 (kV doc pm : Value) (an : Option Addr) (cdv ct : Value) (us : List Value) (hl : us.length = 1) : bindArgs (PySem.W.fnOf "_law_drawn" "_law_drawn" (defArgs (topS 49)) (defBody (topS 49)) (defScope (topS 49)) .none kV doc pm an cdv ct) ⟨us, []⟩ = pure ((["cell"] : List Str).zip us) := match us, hl with | [_], _ => rfl
theorem e40 {w : World} {K : PySem.W.Frag} {h : Heap} {mg : Str → Option Value} (X : K.In h) (G : h.Ns mainGlobals mg) {f40 : Addr} {od40 an40 : Option Addr} {sl40 : Array (Option Value)} {oc40 kV40 dc40 pm40 cd40 ct40 : Value} (a40 : PySem.W.nsIn K mainGlobals "_law_drawn" = some (some (.ref f40))) (l40 : K.lookup f40 = some ⟨oc40, od40, .func (PySem.W.fnOf "_law_drawn" "_law_drawn" (defArgs (topS 49)) (defBody (topS 49)) (defScope (topS 49)) .none kV40 dc40 pm40 an40 cd40 ct40), sl40⟩) (c40 : PySem.W.codeIn K cd40 "_law_drawn" = true) (k40 : PySem.W.keepIn K (.ref f40) = true) : EntOk K mg ent40 :=
  ent_mk (w := w) (e := ent40) X G a40 l40 c40 k40 rfl b40
theorem b41 (kV doc pm : Value) (an : Option Addr) (cdv ct : Value) (us : List Value) (hl : us.length = 3) : bindArgs (PySem.W.fnOf "_law_is_left" "_law_is_left" (defArgs (topS 50)) (defBody (topS 50)) (defScope (topS 50)) .none kV doc pm an cdv ct) ⟨us, []⟩ = pure ((["row", "start", "end"] : List Str).zip us) := match us, hl with | [_, _, _], _ => rfl
theorem e41 {w : World} {K : PySem.W.Frag} {h : Heap} {mg : Str → Option Value} (X : K.In h) (G : h.Ns mainGlobals mg) {f41 : Addr} {od41 an41 : Option Addr} {sl41 : Array (Option Value)} {oc41 kV41 dc41 pm41 cd41 ct41 : Value} (a41 : PySem.W.nsIn K mainGlobals "_law_is_left" = some (some (.ref f41))) (l41 : K.lookup f41 = some ⟨oc41, od41, .func (PySem.W.fnOf "_law_is_left" "_law_is_left" (defArgs (topS 50)) (defBody (topS 50)) (defScope (topS 50)) .none kV41 dc41 pm41 an41 cd41 ct41), sl41⟩) (c41 : PySem.W.codeIn K cd41 "_law_is_left" = true) (k41 : PySem.W.keepIn K (.ref f41) = true) : EntOk K mg ent41 :=
  ent_mk (w := w) (e := ent41) X G a41 l41 c41 k41 rfl b41
theorem b42 (kV doc pm : Value) (an : Option Addr) (cdv ct : Value) (us : List Value) (hl : us.length = 1) : bindArgs (PySem.W.fnOf "law" "law" (defArgs (topS 51)) (defBody (topS 51)) (defScope (topS 51)) .none kV doc pm an cdv ct) ⟨us, []⟩ = pure ((["script"] : List Str).zip us) := match us, hl with | [_], _ => rfl
theorem e42 {w : World} {K : PySem.W.Frag} {h : Heap} {mg : Str → Option Value} (X : K.In h) (G : h.Ns mainGlobals mg) {f42 : Addr} {od42 an42 : Option Addr} {sl42 : Array (Option Value)} {oc42 kV42 dc42 pm42 cd42 ct42 : Value} (a42 : PySem.W.nsIn K mainGlobals "law" = some (some (.ref f42))) (l42 : K.lookup f42 = some ⟨oc42, od42, .func (PySem.W.fnOf "law" "law" (defArgs (topS 51)) (defBody (topS 51)) (defScope (topS 51)) .none kV42 dc42 pm42 an42 cd42 ct42), sl42⟩) (c42 : PySem.W.codeIn K cd42 "law" = true) (k42 : PySem.W.keepIn K (.ref f42) = true) : EntOk K mg ent42 :=
  ent_mk (w := w) (e := ent42) X G a42 l42 c42 k42 rfl b42
theorem all_mk {l : PySem.W.OpenLaw} {w : World} {K : PySem.W.Frag} {h : Heap} {mg : Str → Option Value} {fa : Addr} (X : K.In h) (G : h.Ns mainGlobals mg) (hfa : mg "law" = some (.ref fa))
    {f0 : Addr} {od0 an0 : Option Addr} {sl0 : Array (Option Value)} {oc0 kV0 dc0 pm0 cd0 ct0 : Value} (a0 : PySem.W.nsIn K mainGlobals "common_numbers" = some (some (.ref f0))) (l0 : K.lookup f0 = some ⟨oc0, od0, .func (PySem.W.fnOf "common" "common" (defArgs (topS 4)) (defBody (topS 4)) (defScope (topS 4)) .none kV0 dc0 pm0 an0 cd0 ct0), sl0⟩) (c0 : PySem.W.codeIn K cd0 "common" = true) (k0 : PySem.W.keepIn K (.ref f0) = true)
    {f1 : Addr} {od1 an1 : Option Addr} {sl1 : Array (Option Value)} {oc1 kV1 dc1 pm1 cd1 ct1 : Value} {T1 : Addr} {o1 : Obj} {tk1 : Tok} {n1 : Nat} (a1 : PySem.W.nsIn K mainGlobals "fraction" = some (some (.ref f1))) (l1 : K.lookup f1 = some ⟨oc1, od1, .func (PySem.W.fnOf "fraction" "fraction" (defArgs (topS 6)) (defBody (topS 6)) (defScope (topS 6)) (.ref T1) kV1 dc1 pm1 an1 cd1 ct1), sl1⟩) (c1 : PySem.W.codeIn K cd1 "fraction" = true) (k1 : PySem.W.keepIn K (.ref f1) = true) (q1 : K.lookup T1 = some o1) (r1 : o1.data = .seq #[.int 1 tk1] n1)
    {f2 : Addr} {od2 an2 : Option Addr} {sl2 : Array (Option Value)} {oc2 kV2 dc2 pm2 cd2 ct2 : Value} (a2 : PySem.W.nsIn K mainGlobals "plus" = some (some (.ref f2))) (l2 : K.lookup f2 = some ⟨oc2, od2, .func (PySem.W.fnOf "plus" "plus" (defArgs (topS 7)) (defBody (topS 7)) (defScope (topS 7)) .none kV2 dc2 pm2 an2 cd2 ct2), sl2⟩) (c2 : PySem.W.codeIn K cd2 "plus" = true) (k2 : PySem.W.keepIn K (.ref f2) = true)
    {f3 : Addr} {od3 an3 : Option Addr} {sl3 : Array (Option Value)} {oc3 kV3 dc3 pm3 cd3 ct3 : Value} (a3 : PySem.W.nsIn K mainGlobals "minus" = some (some (.ref f3))) (l3 : K.lookup f3 = some ⟨oc3, od3, .func (PySem.W.fnOf "minus" "minus" (defArgs (topS 8)) (defBody (topS 8)) (defScope (topS 8)) .none kV3 dc3 pm3 an3 cd3 ct3), sl3⟩) (c3 : PySem.W.codeIn K cd3 "minus" = true) (k3 : PySem.W.keepIn K (.ref f3) = true)
    {f4 : Addr} {od4 an4 : Option Addr} {sl4 : Array (Option Value)} {oc4 kV4 dc4 pm4 cd4 ct4 : Value} (a4 : PySem.W.nsIn K mainGlobals "times" = some (some (.ref f4))) (l4 : K.lookup f4 = some ⟨oc4, od4, .func (PySem.W.fnOf "times" "times" (defArgs (topS 9)) (defBody (topS 9)) (defScope (topS 9)) .none kV4 dc4 pm4 an4 cd4 ct4), sl4⟩) (c4 : PySem.W.codeIn K cd4 "times" = true) (k4 : PySem.W.keepIn K (.ref f4) = true)
    {f5 : Addr} {od5 an5 : Option Addr} {sl5 : Array (Option Value)} {oc5 kV5 dc5 pm5 cd5 ct5 : Value} (a5 : PySem.W.nsIn K mainGlobals "over" = some (some (.ref f5))) (l5 : K.lookup f5 = some ⟨oc5, od5, .func (PySem.W.fnOf "over" "over" (defArgs (topS 10)) (defBody (topS 10)) (defScope (topS 10)) .none kV5 dc5 pm5 an5 cd5 ct5), sl5⟩) (c5 : PySem.W.codeIn K cd5 "over" = true) (k5 : PySem.W.keepIn K (.ref f5) = true)
    {f6 : Addr} {od6 an6 : Option Addr} {sl6 : Array (Option Value)} {oc6 kV6 dc6 pm6 cd6 ct6 : Value} (a6 : PySem.W.nsIn K mainGlobals "less" = some (some (.ref f6))) (l6 : K.lookup f6 = some ⟨oc6, od6, .func (PySem.W.fnOf "less" "less" (defArgs (topS 11)) (defBody (topS 11)) (defScope (topS 11)) .none kV6 dc6 pm6 an6 cd6 ct6), sl6⟩) (c6 : PySem.W.codeIn K cd6 "less" = true) (k6 : PySem.W.keepIn K (.ref f6) = true)
    {f7 : Addr} {od7 an7 : Option Addr} {sl7 : Array (Option Value)} {oc7 kV7 dc7 pm7 cd7 ct7 : Value} (a7 : PySem.W.nsIn K mainGlobals "sign" = some (some (.ref f7))) (l7 : K.lookup f7 = some ⟨oc7, od7, .func (PySem.W.fnOf "sign" "sign" (defArgs (topS 12)) (defBody (topS 12)) (defScope (topS 12)) .none kV7 dc7 pm7 an7 cd7 ct7), sl7⟩) (c7 : PySem.W.codeIn K cd7 "sign" = true) (k7 : PySem.W.keepIn K (.ref f7) = true)
    {f8 : Addr} {od8 an8 : Option Addr} {sl8 : Array (Option Value)} {oc8 kV8 dc8 pm8 cd8 ct8 : Value} (a8 : PySem.W.nsIn K mainGlobals "turn" = some (some (.ref f8))) (l8 : K.lookup f8 = some ⟨oc8, od8, .func (PySem.W.fnOf "turn" "turn" (defArgs (topS 14)) (defBody (topS 14)) (defScope (topS 14)) .none kV8 dc8 pm8 an8 cd8 ct8), sl8⟩) (c8 : PySem.W.codeIn K cd8 "turn" = true) (k8 : PySem.W.keepIn K (.ref f8) = true)
    {f9 : Addr} {od9 an9 : Option Addr} {sl9 : Array (Option Value)} {oc9 kV9 dc9 pm9 cd9 ct9 : Value} (a9 : PySem.W.nsIn K mainGlobals "smaller" = some (some (.ref f9))) (l9 : K.lookup f9 = some ⟨oc9, od9, .func (PySem.W.fnOf "smaller" "smaller" (defArgs (topS 15)) (defBody (topS 15)) (defScope (topS 15)) .none kV9 dc9 pm9 an9 cd9 ct9), sl9⟩) (c9 : PySem.W.codeIn K cd9 "smaller" = true) (k9 : PySem.W.keepIn K (.ref f9) = true)
    {f10 : Addr} {od10 an10 : Option Addr} {sl10 : Array (Option Value)} {oc10 kV10 dc10 pm10 cd10 ct10 : Value} (a10 : PySem.W.nsIn K mainGlobals "put_in" = some (some (.ref f10))) (l10 : K.lookup f10 = some ⟨oc10, od10, .func (PySem.W.fnOf "put_in" "put_in" (defArgs (topS 17)) (defBody (topS 17)) (defScope (topS 17)) .none kV10 dc10 pm10 an10 cd10 ct10), sl10⟩) (c10 : PySem.W.codeIn K cd10 "put_in" = true) (k10 : PySem.W.keepIn K (.ref f10) = true)
    {f11 : Addr} {od11 an11 : Option Addr} {sl11 : Array (Option Value)} {oc11 kV11 dc11 pm11 cd11 ct11 : Value} (a11 : PySem.W.nsIn K mainGlobals "chain" = some (some (.ref f11))) (l11 : K.lookup f11 = some ⟨oc11, od11, .func (PySem.W.fnOf "chain" "chain" (defArgs (topS 18)) (defBody (topS 18)) (defScope (topS 18)) .none kV11 dc11 pm11 an11 cd11 ct11), sl11⟩) (c11 : PySem.W.codeIn K cd11 "chain" = true) (k11 : PySem.W.keepIn K (.ref f11) = true)
    {f12 : Addr} {od12 an12 : Option Addr} {sl12 : Array (Option Value)} {oc12 kV12 dc12 pm12 cd12 ct12 : Value} (a12 : PySem.W.nsIn K mainGlobals "hull" = some (some (.ref f12))) (l12 : K.lookup f12 = some ⟨oc12, od12, .func (PySem.W.fnOf "hull" "hull" (defArgs (topS 19)) (defBody (topS 19)) (defScope (topS 19)) .none kV12 dc12 pm12 an12 cd12 ct12), sl12⟩) (c12 : PySem.W.codeIn K cd12 "hull" = true) (k12 : PySem.W.keepIn K (.ref f12) = true)
    {f13 : Addr} {od13 an13 : Option Addr} {sl13 : Array (Option Value)} {oc13 kV13 dc13 pm13 cd13 ct13 : Value} (a13 : PySem.W.nsIn K mainGlobals "size_of" = some (some (.ref f13))) (l13 : K.lookup f13 = some ⟨oc13, od13, .func (PySem.W.fnOf "size_of" "size_of" (defArgs (topS 20)) (defBody (topS 20)) (defScope (topS 20)) .none kV13 dc13 pm13 an13 cd13 ct13), sl13⟩) (c13 : PySem.W.codeIn K cd13 "size_of" = true) (k13 : PySem.W.keepIn K (.ref f13) = true)
    {f14 : Addr} {od14 an14 : Option Addr} {sl14 : Array (Option Value)} {oc14 kV14 dc14 pm14 cd14 ct14 : Value} (a14 : PySem.W.nsIn K mainGlobals "crossing" = some (some (.ref f14))) (l14 : K.lookup f14 = some ⟨oc14, od14, .func (PySem.W.fnOf "crossing" "crossing" (defArgs (topS 21)) (defBody (topS 21)) (defScope (topS 21)) .none kV14 dc14 pm14 an14 cd14 ct14), sl14⟩) (c14 : PySem.W.codeIn K cd14 "crossing" = true) (k14 : PySem.W.keepIn K (.ref f14) = true)
    {f15 : Addr} {od15 an15 : Option Addr} {sl15 : Array (Option Value)} {oc15 kV15 dc15 pm15 cd15 ct15 : Value} (a15 : PySem.W.nsIn K mainGlobals "left_of" = some (some (.ref f15))) (l15 : K.lookup f15 = some ⟨oc15, od15, .func (PySem.W.fnOf "left_of" "left_of" (defArgs (topS 22)) (defBody (topS 22)) (defScope (topS 22)) .none kV15 dc15 pm15 an15 cd15 ct15), sl15⟩) (c15 : PySem.W.codeIn K cd15 "left_of" = true) (k15 : PySem.W.keepIn K (.ref f15) = true)
    {f16 : Addr} {od16 an16 : Option Addr} {sl16 : Array (Option Value)} {oc16 kV16 dc16 pm16 cd16 ct16 : Value} (a16 : PySem.W.nsIn K mainGlobals "sides_of" = some (some (.ref f16))) (l16 : K.lookup f16 = some ⟨oc16, od16, .func (PySem.W.fnOf "sides_of" "sides_of" (defArgs (topS 23)) (defBody (topS 23)) (defScope (topS 23)) .none kV16 dc16 pm16 an16 cd16 ct16), sl16⟩) (c16 : PySem.W.codeIn K cd16 "sides_of" = true) (k16 : PySem.W.keepIn K (.ref f16) = true)
    {f17 : Addr} {od17 an17 : Option Addr} {sl17 : Array (Option Value)} {oc17 kV17 dc17 pm17 cd17 ct17 : Value} (a17 : PySem.W.nsIn K mainGlobals "common_polygons" = some (some (.ref f17))) (l17 : K.lookup f17 = some ⟨oc17, od17, .func (PySem.W.fnOf "common" "common" (defArgs (topS 24)) (defBody (topS 24)) (defScope (topS 24)) .none kV17 dc17 pm17 an17 cd17 ct17), sl17⟩) (c17 : PySem.W.codeIn K cd17 "common" = true) (k17 : PySem.W.keepIn K (.ref f17) = true)
    {f18 : Addr} {od18 an18 : Option Addr} {sl18 : Array (Option Value)} {oc18 kV18 dc18 pm18 cd18 ct18 : Value} (a18 : PySem.W.nsIn K mainGlobals "cut_out" = some (some (.ref f18))) (l18 : K.lookup f18 = some ⟨oc18, od18, .func (PySem.W.fnOf "cut_out" "cut_out" (defArgs (topS 26)) (defBody (topS 26)) (defScope (topS 26)) .none kV18 dc18 pm18 an18 cd18 ct18), sl18⟩) (c18 : PySem.W.codeIn K cd18 "cut_out" = true) (k18 : PySem.W.keepIn K (.ref f18) = true)
    {f19 : Addr} {od19 an19 : Option Addr} {sl19 : Array (Option Value)} {oc19 kV19 dc19 pm19 cd19 ct19 : Value} (a19 : PySem.W.nsIn K mainGlobals "without" = some (some (.ref f19))) (l19 : K.lookup f19 = some ⟨oc19, od19, .func (PySem.W.fnOf "without" "without" (defArgs (topS 27)) (defBody (topS 27)) (defScope (topS 27)) .none kV19 dc19 pm19 an19 cd19 ct19), sl19⟩) (c19 : PySem.W.codeIn K cd19 "without" = true) (k19 : PySem.W.keepIn K (.ref f19) = true)
    {f20 : Addr} {od20 an20 : Option Addr} {sl20 : Array (Option Value)} {oc20 kV20 dc20 pm20 cd20 ct20 : Value} (a20 : PySem.W.nsIn K mainGlobals "_law_cell" = some (some (.ref f20))) (l20 : K.lookup f20 = some ⟨oc20, od20, .func (PySem.W.fnOf "_law_cell" "_law_cell" (defArgs (topS 29)) (defBody (topS 29)) (defScope (topS 29)) .none kV20 dc20 pm20 an20 cd20 ct20), sl20⟩) (c20 : PySem.W.codeIn K cd20 "_law_cell" = true) (k20 : PySem.W.keepIn K (.ref f20) = true)
    {f21 : Addr} {od21 an21 : Option Addr} {sl21 : Array (Option Value)} {oc21 kV21 dc21 pm21 cd21 ct21 : Value} (a21 : PySem.W.nsIn K mainGlobals "_law_row" = some (some (.ref f21))) (l21 : K.lookup f21 = some ⟨oc21, od21, .func (PySem.W.fnOf "_law_row" "_law_row" (defArgs (topS 30)) (defBody (topS 30)) (defScope (topS 30)) .none kV21 dc21 pm21 an21 cd21 ct21), sl21⟩) (c21 : PySem.W.codeIn K cd21 "_law_row" = true) (k21 : PySem.W.keepIn K (.ref f21) = true)
    {f22 : Addr} {od22 an22 : Option Addr} {sl22 : Array (Option Value)} {oc22 kV22 dc22 pm22 cd22 ct22 : Value} (a22 : PySem.W.nsIn K mainGlobals "_law_fraction" = some (some (.ref f22))) (l22 : K.lookup f22 = some ⟨oc22, od22, .func (PySem.W.fnOf "_law_fraction" "_law_fraction" (defArgs (topS 31)) (defBody (topS 31)) (defScope (topS 31)) .none kV22 dc22 pm22 an22 cd22 ct22), sl22⟩) (c22 : PySem.W.codeIn K cd22 "_law_fraction" = true) (k22 : PySem.W.keepIn K (.ref f22) = true)
    {f23 : Addr} {od23 an23 : Option Addr} {sl23 : Array (Option Value)} {oc23 kV23 dc23 pm23 cd23 ct23 : Value} (a23 : PySem.W.nsIn K mainGlobals "_law_plus" = some (some (.ref f23))) (l23 : K.lookup f23 = some ⟨oc23, od23, .func (PySem.W.fnOf "_law_plus" "_law_plus" (defArgs (topS 32)) (defBody (topS 32)) (defScope (topS 32)) .none kV23 dc23 pm23 an23 cd23 ct23), sl23⟩) (c23 : PySem.W.codeIn K cd23 "_law_plus" = true) (k23 : PySem.W.keepIn K (.ref f23) = true)
    {f24 : Addr} {od24 an24 : Option Addr} {sl24 : Array (Option Value)} {oc24 kV24 dc24 pm24 cd24 ct24 : Value} (a24 : PySem.W.nsIn K mainGlobals "_law_minus" = some (some (.ref f24))) (l24 : K.lookup f24 = some ⟨oc24, od24, .func (PySem.W.fnOf "_law_minus" "_law_minus" (defArgs (topS 33)) (defBody (topS 33)) (defScope (topS 33)) .none kV24 dc24 pm24 an24 cd24 ct24), sl24⟩) (c24 : PySem.W.codeIn K cd24 "_law_minus" = true) (k24 : PySem.W.keepIn K (.ref f24) = true)
    {f25 : Addr} {od25 an25 : Option Addr} {sl25 : Array (Option Value)} {oc25 kV25 dc25 pm25 cd25 ct25 : Value} (a25 : PySem.W.nsIn K mainGlobals "_law_times" = some (some (.ref f25))) (l25 : K.lookup f25 = some ⟨oc25, od25, .func (PySem.W.fnOf "_law_times" "_law_times" (defArgs (topS 34)) (defBody (topS 34)) (defScope (topS 34)) .none kV25 dc25 pm25 an25 cd25 ct25), sl25⟩) (c25 : PySem.W.codeIn K cd25 "_law_times" = true) (k25 : PySem.W.keepIn K (.ref f25) = true)
    {f26 : Addr} {od26 an26 : Option Addr} {sl26 : Array (Option Value)} {oc26 kV26 dc26 pm26 cd26 ct26 : Value} (a26 : PySem.W.nsIn K mainGlobals "_law_over" = some (some (.ref f26))) (l26 : K.lookup f26 = some ⟨oc26, od26, .func (PySem.W.fnOf "_law_over" "_law_over" (defArgs (topS 35)) (defBody (topS 35)) (defScope (topS 35)) .none kV26 dc26 pm26 an26 cd26 ct26), sl26⟩) (c26 : PySem.W.codeIn K cd26 "_law_over" = true) (k26 : PySem.W.keepIn K (.ref f26) = true)
    {f27 : Addr} {od27 an27 : Option Addr} {sl27 : Array (Option Value)} {oc27 kV27 dc27 pm27 cd27 ct27 : Value} (a27 : PySem.W.nsIn K mainGlobals "_law_less" = some (some (.ref f27))) (l27 : K.lookup f27 = some ⟨oc27, od27, .func (PySem.W.fnOf "_law_less" "_law_less" (defArgs (topS 36)) (defBody (topS 36)) (defScope (topS 36)) .none kV27 dc27 pm27 an27 cd27 ct27), sl27⟩) (c27 : PySem.W.codeIn K cd27 "_law_less" = true) (k27 : PySem.W.keepIn K (.ref f27) = true)
    {f28 : Addr} {od28 an28 : Option Addr} {sl28 : Array (Option Value)} {oc28 kV28 dc28 pm28 cd28 ct28 : Value} (a28 : PySem.W.nsIn K mainGlobals "_law_middle" = some (some (.ref f28))) (l28 : K.lookup f28 = some ⟨oc28, od28, .func (PySem.W.fnOf "_law_middle" "_law_middle" (defArgs (topS 37)) (defBody (topS 37)) (defScope (topS 37)) .none kV28 dc28 pm28 an28 cd28 ct28), sl28⟩) (c28 : PySem.W.codeIn K cd28 "_law_middle" = true) (k28 : PySem.W.keepIn K (.ref f28) = true)
    {f29 : Addr} {od29 an29 : Option Addr} {sl29 : Array (Option Value)} {oc29 kV29 dc29 pm29 cd29 ct29 : Value} (a29 : PySem.W.nsIn K mainGlobals "_law_turn" = some (some (.ref f29))) (l29 : K.lookup f29 = some ⟨oc29, od29, .func (PySem.W.fnOf "_law_turn" "_law_turn" (defArgs (topS 38)) (defBody (topS 38)) (defScope (topS 38)) .none kV29 dc29 pm29 an29 cd29 ct29), sl29⟩) (c29 : PySem.W.codeIn K cd29 "_law_turn" = true) (k29 : PySem.W.keepIn K (.ref f29) = true)
    {f30 : Addr} {od30 an30 : Option Addr} {sl30 : Array (Option Value)} {oc30 kV30 dc30 pm30 cd30 ct30 : Value} (a30 : PySem.W.nsIn K mainGlobals "_law_is_side" = some (some (.ref f30))) (l30 : K.lookup f30 = some ⟨oc30, od30, .func (PySem.W.fnOf "_law_is_side" "_law_is_side" (defArgs (topS 39)) (defBody (topS 39)) (defScope (topS 39)) .none kV30 dc30 pm30 an30 cd30 ct30), sl30⟩) (c30 : PySem.W.codeIn K cd30 "_law_is_side" = true) (k30 : PySem.W.keepIn K (.ref f30) = true)
    {f31 : Addr} {od31 an31 : Option Addr} {sl31 : Array (Option Value)} {oc31 kV31 dc31 pm31 cd31 ct31 : Value} (a31 : PySem.W.nsIn K mainGlobals "_law_hull" = some (some (.ref f31))) (l31 : K.lookup f31 = some ⟨oc31, od31, .func (PySem.W.fnOf "_law_hull" "_law_hull" (defArgs (topS 40)) (defBody (topS 40)) (defScope (topS 40)) .none kV31 dc31 pm31 an31 cd31 ct31), sl31⟩) (c31 : PySem.W.codeIn K cd31 "_law_hull" = true) (k31 : PySem.W.keepIn K (.ref f31) = true)
    {f32 : Addr} {od32 an32 : Option Addr} {sl32 : Array (Option Value)} {oc32 kV32 dc32 pm32 cd32 ct32 : Value} (a32 : PySem.W.nsIn K mainGlobals "_law_other" = some (some (.ref f32))) (l32 : K.lookup f32 = some ⟨oc32, od32, .func (PySem.W.fnOf "_law_other" "_law_other" (defArgs (topS 41)) (defBody (topS 41)) (defScope (topS 41)) .none kV32 dc32 pm32 an32 cd32 ct32), sl32⟩) (c32 : PySem.W.codeIn K cd32 "_law_other" = true) (k32 : PySem.W.keepIn K (.ref f32) = true)
    {f33 : Addr} {od33 an33 : Option Addr} {sl33 : Array (Option Value)} {oc33 kV33 dc33 pm33 cd33 ct33 : Value} (a33 : PySem.W.nsIn K mainGlobals "_law_least" = some (some (.ref f33))) (l33 : K.lookup f33 = some ⟨oc33, od33, .func (PySem.W.fnOf "_law_least" "_law_least" (defArgs (topS 42)) (defBody (topS 42)) (defScope (topS 42)) .none kV33 dc33 pm33 an33 cd33 ct33), sl33⟩) (c33 : PySem.W.codeIn K cd33 "_law_least" = true) (k33 : PySem.W.keepIn K (.ref f33) = true)
    {f34 : Addr} {od34 an34 : Option Addr} {sl34 : Array (Option Value)} {oc34 kV34 dc34 pm34 cd34 ct34 : Value} (a34 : PySem.W.nsIn K mainGlobals "_law_twice" = some (some (.ref f34))) (l34 : K.lookup f34 = some ⟨oc34, od34, .func (PySem.W.fnOf "_law_twice" "_law_twice" (defArgs (topS 43)) (defBody (topS 43)) (defScope (topS 43)) .none kV34 dc34 pm34 an34 cd34 ct34), sl34⟩) (c34 : PySem.W.codeIn K cd34 "_law_twice" = true) (k34 : PySem.W.keepIn K (.ref f34) = true)
    {f35 : Addr} {od35 an35 : Option Addr} {sl35 : Array (Option Value)} {oc35 kV35 dc35 pm35 cd35 ct35 : Value} (a35 : PySem.W.nsIn K mainGlobals "_law_clip" = some (some (.ref f35))) (l35 : K.lookup f35 = some ⟨oc35, od35, .func (PySem.W.fnOf "_law_clip" "_law_clip" (defArgs (topS 44)) (defBody (topS 44)) (defScope (topS 44)) .none kV35 dc35 pm35 an35 cd35 ct35), sl35⟩) (c35 : PySem.W.codeIn K cd35 "_law_clip" = true) (k35 : PySem.W.keepIn K (.ref f35) = true)
    {f36 : Addr} {od36 an36 : Option Addr} {sl36 : Array (Option Value)} {oc36 kV36 dc36 pm36 cd36 ct36 : Value} (a36 : PySem.W.nsIn K mainGlobals "_law_shared" = some (some (.ref f36))) (l36 : K.lookup f36 = some ⟨oc36, od36, .func (PySem.W.fnOf "_law_shared" "_law_shared" (defArgs (topS 45)) (defBody (topS 45)) (defScope (topS 45)) .none kV36 dc36 pm36 an36 cd36 ct36), sl36⟩) (c36 : PySem.W.codeIn K cd36 "_law_shared" = true) (k36 : PySem.W.keepIn K (.ref f36) = true)
    {f37 : Addr} {od37 an37 : Option Addr} {sl37 : Array (Option Value)} {oc37 kV37 dc37 pm37 cd37 ct37 : Value} (a37 : PySem.W.nsIn K mainGlobals "_law_points" = some (some (.ref f37))) (l37 : K.lookup f37 = some ⟨oc37, od37, .func (PySem.W.fnOf "_law_points" "_law_points" (defArgs (topS 46)) (defBody (topS 46)) (defScope (topS 46)) .none kV37 dc37 pm37 an37 cd37 ct37), sl37⟩) (c37 : PySem.W.codeIn K cd37 "_law_points" = true) (k37 : PySem.W.keepIn K (.ref f37) = true)
    {f38 : Addr} {od38 an38 : Option Addr} {sl38 : Array (Option Value)} {oc38 kV38 dc38 pm38 cd38 ct38 : Value} (a38 : PySem.W.nsIn K mainGlobals "_law_shoelace" = some (some (.ref f38))) (l38 : K.lookup f38 = some ⟨oc38, od38, .func (PySem.W.fnOf "_law_shoelace" "_law_shoelace" (defArgs (topS 47)) (defBody (topS 47)) (defScope (topS 47)) .none kV38 dc38 pm38 an38 cd38 ct38), sl38⟩) (c38 : PySem.W.codeIn K cd38 "_law_shoelace" = true) (k38 : PySem.W.keepIn K (.ref f38) = true)
    {f39 : Addr} {od39 an39 : Option Addr} {sl39 : Array (Option Value)} {oc39 kV39 dc39 pm39 cd39 ct39 : Value} (a39 : PySem.W.nsIn K mainGlobals "_law_right_hull" = some (some (.ref f39))) (l39 : K.lookup f39 = some ⟨oc39, od39, .func (PySem.W.fnOf "_law_right_hull" "_law_right_hull" (defArgs (topS 48)) (defBody (topS 48)) (defScope (topS 48)) .none kV39 dc39 pm39 an39 cd39 ct39), sl39⟩) (c39 : PySem.W.codeIn K cd39 "_law_right_hull" = true) (k39 : PySem.W.keepIn K (.ref f39) = true)
    {f40 : Addr} {od40 an40 : Option Addr} {sl40 : Array (Option Value)} {oc40 kV40 dc40 pm40 cd40 ct40 : Value} (a40 : PySem.W.nsIn K mainGlobals "_law_drawn" = some (some (.ref f40))) (l40 : K.lookup f40 = some ⟨oc40, od40, .func (PySem.W.fnOf "_law_drawn" "_law_drawn" (defArgs (topS 49)) (defBody (topS 49)) (defScope (topS 49)) .none kV40 dc40 pm40 an40 cd40 ct40), sl40⟩) (c40 : PySem.W.codeIn K cd40 "_law_drawn" = true) (k40 : PySem.W.keepIn K (.ref f40) = true)
    {f41 : Addr} {od41 an41 : Option Addr} {sl41 : Array (Option Value)} {oc41 kV41 dc41 pm41 cd41 ct41 : Value} (a41 : PySem.W.nsIn K mainGlobals "_law_is_left" = some (some (.ref f41))) (l41 : K.lookup f41 = some ⟨oc41, od41, .func (PySem.W.fnOf "_law_is_left" "_law_is_left" (defArgs (topS 50)) (defBody (topS 50)) (defScope (topS 50)) .none kV41 dc41 pm41 an41 cd41 ct41), sl41⟩) (c41 : PySem.W.codeIn K cd41 "_law_is_left" = true) (k41 : PySem.W.keepIn K (.ref f41) = true)
    {f42 : Addr} {od42 an42 : Option Addr} {sl42 : Array (Option Value)} {oc42 kV42 dc42 pm42 cd42 ct42 : Value} (a42 : PySem.W.nsIn K mainGlobals "law" = some (some (.ref f42))) (l42 : K.lookup f42 = some ⟨oc42, od42, .func (PySem.W.fnOf "law" "law" (defArgs (topS 51)) (defBody (topS 51)) (defScope (topS 51)) .none kV42 dc42 pm42 an42 cd42 ct42), sl42⟩) (c42 : PySem.W.codeIn K cd42 "law" = true) (k42 : PySem.W.keepIn K (.ref f42) = true)
    (z0 : PySem.W.nsIn K mainGlobals "len" = some none) (z1 : PySem.W.nsIn K mainGlobals "abs" = some none) (z2 : PySem.W.nsIn K mainGlobals "int" = some none) (z3 : PySem.W.nsIn K mainGlobals "list" = some none) (z4 : PySem.W.nsIn K mainGlobals "tuple" = some none) (z5 : PySem.W.nsIn K mainGlobals "isinstance" = some none) (z6 : PySem.W.nsIn K mainGlobals "range" = some none) (z7 : PySem.W.nsIn K mainGlobals "bool" = some none) (z8 : PySem.W.nsIn K mainGlobals "str" = some none) :
    ∃ fd : FuncData, (∀ (s : Shared) (v : Value), BindsTo s fd ⟨[v], []⟩ [("script", v)]) ∧ ∀ base : Heap, K.In base → base.Ns mainGlobals mg → FnOk l.prog w K mg base CX0 40 fa fd ["script"] (MP.spLaw K) := by
  have hE : ∀ e ∈ es, EntOk K mg e := by
    refine List.forall_mem_cons.mpr ⟨e0 (w := w) X G a0 l0 c0 k0, ?_⟩
    refine List.forall_mem_cons.mpr ⟨e1 (w := w) X G a1 l1 c1 k1 q1 r1, ?_⟩
    refine List.forall_mem_cons.mpr ⟨e2 (w := w) X G a2 l2 c2 k2, ?_⟩
    refine List.forall_mem_cons.mpr ⟨e3 (w := w) X G a3 l3 c3 k3, ?_⟩
    refine List.forall_mem_cons.mpr ⟨e4 (w := w) X G a4 l4 c4 k4, ?_⟩
    refine List.forall_mem_cons.mpr ⟨e5 (w := w) X G a5 l5 c5 k5, ?_⟩
    refine List.forall_mem_cons.mpr ⟨e6 (w := w) X G a6 l6 c6 k6, ?_⟩
    refine List.forall_mem_cons.mpr ⟨e7 (w := w) X G a7 l7 c7 k7, ?_⟩
    refine List.forall_mem_cons.mpr ⟨e8 (w := w) X G a8 l8 c8 k8, ?_⟩
    refine List.forall_mem_cons.mpr ⟨e9 (w := w) X G a9 l9 c9 k9, ?_⟩
    refine List.forall_mem_cons.mpr ⟨e10 (w := w) X G a10 l10 c10 k10, ?_⟩
    refine List.forall_mem_cons.mpr ⟨e11 (w := w) X G a11 l11 c11 k11, ?_⟩
    refine List.forall_mem_cons.mpr ⟨e12 (w := w) X G a12 l12 c12 k12, ?_⟩
    refine List.forall_mem_cons.mpr ⟨e13 (w := w) X G a13 l13 c13 k13, ?_⟩
    refine List.forall_mem_cons.mpr ⟨e14 (w := w) X G a14 l14 c14 k14, ?_⟩
    refine List.forall_mem_cons.mpr ⟨e15 (w := w) X G a15 l15 c15 k15, ?_⟩
    refine List.forall_mem_cons.mpr ⟨e16 (w := w) X G a16 l16 c16 k16, ?_⟩
    refine List.forall_mem_cons.mpr ⟨e17 (w := w) X G a17 l17 c17 k17, ?_⟩
    refine List.forall_mem_cons.mpr ⟨e18 (w := w) X G a18 l18 c18 k18, ?_⟩
    refine List.forall_mem_cons.mpr ⟨e19 (w := w) X G a19 l19 c19 k19, ?_⟩
    refine List.forall_mem_cons.mpr ⟨e20 (w := w) X G a20 l20 c20 k20, ?_⟩
    refine List.forall_mem_cons.mpr ⟨e21 (w := w) X G a21 l21 c21 k21, ?_⟩
    refine List.forall_mem_cons.mpr ⟨e22 (w := w) X G a22 l22 c22 k22, ?_⟩
    refine List.forall_mem_cons.mpr ⟨e23 (w := w) X G a23 l23 c23 k23, ?_⟩
    refine List.forall_mem_cons.mpr ⟨e24 (w := w) X G a24 l24 c24 k24, ?_⟩
    refine List.forall_mem_cons.mpr ⟨e25 (w := w) X G a25 l25 c25 k25, ?_⟩
    refine List.forall_mem_cons.mpr ⟨e26 (w := w) X G a26 l26 c26 k26, ?_⟩
    refine List.forall_mem_cons.mpr ⟨e27 (w := w) X G a27 l27 c27 k27, ?_⟩
    refine List.forall_mem_cons.mpr ⟨e28 (w := w) X G a28 l28 c28 k28, ?_⟩
    refine List.forall_mem_cons.mpr ⟨e29 (w := w) X G a29 l29 c29 k29, ?_⟩
    refine List.forall_mem_cons.mpr ⟨e30 (w := w) X G a30 l30 c30 k30, ?_⟩
    refine List.forall_mem_cons.mpr ⟨e31 (w := w) X G a31 l31 c31 k31, ?_⟩
    refine List.forall_mem_cons.mpr ⟨e32 (w := w) X G a32 l32 c32 k32, ?_⟩
    refine List.forall_mem_cons.mpr ⟨e33 (w := w) X G a33 l33 c33 k33, ?_⟩
    refine List.forall_mem_cons.mpr ⟨e34 (w := w) X G a34 l34 c34 k34, ?_⟩
    refine List.forall_mem_cons.mpr ⟨e35 (w := w) X G a35 l35 c35 k35, ?_⟩
    refine List.forall_mem_cons.mpr ⟨e36 (w := w) X G a36 l36 c36 k36, ?_⟩
    refine List.forall_mem_cons.mpr ⟨e37 (w := w) X G a37 l37 c37 k37, ?_⟩
    refine List.forall_mem_cons.mpr ⟨e38 (w := w) X G a38 l38 c38 k38, ?_⟩
    refine List.forall_mem_cons.mpr ⟨e39 (w := w) X G a39 l39 c39 k39, ?_⟩
    refine List.forall_mem_cons.mpr ⟨e40 (w := w) X G a40 l40 c40 k40, ?_⟩
    refine List.forall_mem_cons.mpr ⟨e41 (w := w) X G a41 l41 c41 k41, ?_⟩
    refine List.forall_mem_cons.mpr ⟨e42 (w := w) X G a42 l42 c42 k42, ?_⟩
    exact fun _ h => nomatch h
  have bl : ∀ x ∈ ([("len" : Str), "abs", "int", "list", "tuple", "isinstance", "range", "bool", "str"] : List Str), mg x = none := by
    simp only [List.forall_mem_cons]
    exact ⟨PySem.W.mg_none_of X G z0, PySem.W.mg_none_of X G z1, PySem.W.mg_none_of X G z2, PySem.W.mg_none_of X G z3, PySem.W.mg_none_of X G z4, PySem.W.mg_none_of X G z5, PySem.W.mg_none_of X G z6, PySem.W.mg_none_of X G z7, PySem.W.mg_none_of X G z8, fun _ h => nomatch h⟩
  have hl : es[42]? = some ent42 := rfl
  obtain ⟨yy, qual, dvs, kws, a, fdt, F, hm, _, hb⟩ := hE _ (List.mem_of_getElem? hl)
  have e : a = fa := by
    have := hm.symm.trans hfa
    cases this
    rfl
  subst e
  exact ⟨fdt, fun s u => hb rfl s u rfl, fun base _ _ => (tab_fn (ob := ob0) (wf := 20000) es_chk hE bl 40 42 _ hl F).imp fun vs H Q E z => law_sp (fun ns h => plain ns h) vs H Q E z⟩
end K28
open PySem PySem.W PyProof.Rows
set_option maxHeartbeats 0 in
theorem PySem.Challenge.cw_trueshop_k28_polygons_without_others_holds : PySem.Challenge.rw_trueshop_k28_polygons_without_others.Holds := by
  w_on; o_law; k_head; (case hw => w_witness2)
  k_fill
  refine L2.walk_ofK (l := PySem.Challenge.rw_trueshop_k28_polygons_without_others) (n := 63) (k := 40) (x := "script") (CX := L2.CX0) (sp := MP.spLaw) rfl (by decide) rfl ⟨rfl, by decide, by decide⟩ (fun w h Y => PySem.W.kIn_of Y) ?F (fun K H a ns hl _ hS => ⟨a, ns, rfl, hS, hl, fun _ => rfl⟩) (fun _ _ _ _ h => h)
  case F =>
    intro w mg fa h KX G hmg
    refine' K28.all_mk KX G hmg ?a0 ?l0 ?c0 ?k0 ?a1 ?l1 ?c1 ?k1 ?q1 ?r1 ?a2 ?l2 ?c2 ?k2 ?a3 ?l3 ?c3 ?k3 ?a4 ?l4 ?c4 ?k4 ?a5 ?l5 ?c5 ?k5 ?a6 ?l6 ?c6 ?k6 ?a7 ?l7 ?c7 ?k7 ?a8 ?l8 ?c8 ?k8 ?a9 ?l9 ?c9 ?k9 ?a10 ?l10 ?c10 ?k10 ?a11 ?l11 ?c11 ?k11 ?a12 ?l12 ?c12 ?k12 ?a13 ?l13 ?c13 ?k13 ?a14 ?l14 ?c14 ?k14 ?a15 ?l15 ?c15 ?k15 ?a16 ?l16 ?c16 ?k16 ?a17 ?l17 ?c17 ?k17 ?a18 ?l18 ?c18 ?k18 ?a19 ?l19 ?c19 ?k19 ?a20 ?l20 ?c20 ?k20 ?a21 ?l21 ?c21 ?k21 ?a22 ?l22 ?c22 ?k22 ?a23 ?l23 ?c23 ?k23 ?a24 ?l24 ?c24 ?k24 ?a25 ?l25 ?c25 ?k25 ?a26 ?l26 ?c26 ?k26 ?a27 ?l27 ?c27 ?k27 ?a28 ?l28 ?c28 ?k28 ?a29 ?l29 ?c29 ?k29 ?a30 ?l30 ?c30 ?k30 ?a31 ?l31 ?c31 ?k31 ?a32 ?l32 ?c32 ?k32 ?a33 ?l33 ?c33 ?k33 ?a34 ?l34 ?c34 ?k34 ?a35 ?l35 ?c35 ?k35 ?a36 ?l36 ?c36 ?k36 ?a37 ?l37 ?c37 ?k37 ?a38 ?l38 ?c38 ?k38 ?a39 ?l39 ?c39 ?k39 ?a40 ?l40 ?c40 ?k40 ?a41 ?l41 ?c41 ?k41 ?a42 ?l42 ?c42 ?k42 ?z0 ?z1 ?z2 ?z3 ?z4 ?z5 ?z6 ?z7 ?z8
    (case a0 => k_is);
    (case l0 => k_is);
    (case c0 => k_is);
    (case k0 => k_is);
    (case a1 => k_is);
    (case l1 => k_is);
    (case c1 => k_is);
    (case k1 => k_is);
    (case q1 => k_is);
    (case r1 => rfl);
    (case a2 => k_is);
    (case l2 => k_is);
    (case c2 => k_is);
    (case k2 => k_is);
    (case a3 => k_is);
    (case l3 => k_is);
    (case c3 => k_is);
    (case k3 => k_is);
    (case a4 => k_is);
    (case l4 => k_is);
    (case c4 => k_is);
    (case k4 => k_is);
    (case a5 => k_is);
    (case l5 => k_is);
    (case c5 => k_is);
    (case k5 => k_is);
    (case a6 => k_is);
    (case l6 => k_is);
    (case c6 => k_is);
    (case k6 => k_is);
    (case a7 => k_is);
    (case l7 => k_is);
    (case c7 => k_is);
    (case k7 => k_is);
    (case a8 => k_is);
    (case l8 => k_is);
    (case c8 => k_is);
    (case k8 => k_is);
    (case a9 => k_is);
    (case l9 => k_is);
    (case c9 => k_is);
    (case k9 => k_is);
    (case a10 => k_is);
    (case l10 => k_is);
    (case c10 => k_is);
    (case k10 => k_is);
    (case a11 => k_is);
    (case l11 => k_is);
    (case c11 => k_is);
    (case k11 => k_is);
    (case a12 => k_is);
    (case l12 => k_is);
    (case c12 => k_is);
    (case k12 => k_is);
    (case a13 => k_is);
    (case l13 => k_is);
    (case c13 => k_is);
    (case k13 => k_is);
    (case a14 => k_is);
    (case l14 => k_is);
    (case c14 => k_is);
    (case k14 => k_is);
    (case a15 => k_is);
    (case l15 => k_is);
    (case c15 => k_is);
    (case k15 => k_is);
    (case a16 => k_is);
    (case l16 => k_is);
    (case c16 => k_is);
    (case k16 => k_is);
    (case a17 => k_is);
    (case l17 => k_is);
    (case c17 => k_is);
    (case k17 => k_is);
    (case a18 => k_is);
    (case l18 => k_is);
    (case c18 => k_is);
    (case k18 => k_is);
    (case a19 => k_is);
    (case l19 => k_is);
    (case c19 => k_is);
    (case k19 => k_is);
    (case a20 => k_is);
    (case l20 => k_is);
    (case c20 => k_is);
    (case k20 => k_is);
    (case a21 => k_is);
    (case l21 => k_is);
    (case c21 => k_is);
    (case k21 => k_is);
    (case a22 => k_is);
    (case l22 => k_is);
    (case c22 => k_is);
    (case k22 => k_is);
    (case a23 => k_is);
    (case l23 => k_is);
    (case c23 => k_is);
    (case k23 => k_is);
    (case a24 => k_is);
    (case l24 => k_is);
    (case c24 => k_is);
    (case k24 => k_is);
    (case a25 => k_is);
    (case l25 => k_is);
    (case c25 => k_is);
    (case k25 => k_is);
    (case a26 => k_is);
    (case l26 => k_is);
    (case c26 => k_is);
    (case k26 => k_is);
    (case a27 => k_is);
    (case l27 => k_is);
    (case c27 => k_is);
    (case k27 => k_is);
    (case a28 => k_is);
    (case l28 => k_is);
    (case c28 => k_is);
    (case k28 => k_is);
    (case a29 => k_is);
    (case l29 => k_is);
    (case c29 => k_is);
    (case k29 => k_is);
    (case a30 => k_is);
    (case l30 => k_is);
    (case c30 => k_is);
    (case k30 => k_is);
    (case a31 => k_is);
    (case l31 => k_is);
    (case c31 => k_is);
    (case k31 => k_is);
    (case a32 => k_is);
    (case l32 => k_is);
    (case c32 => k_is);
    (case k32 => k_is);
    (case a33 => k_is);
    (case l33 => k_is);
    (case c33 => k_is);
    (case k33 => k_is);
    (case a34 => k_is);
    (case l34 => k_is);
    (case c34 => k_is);
    (case k34 => k_is);
    (case a35 => k_is);
    (case l35 => k_is);
    (case c35 => k_is);
    (case k35 => k_is);
    (case a36 => k_is);
    (case l36 => k_is);
    (case c36 => k_is);
    (case k36 => k_is);
    (case a37 => k_is);
    (case l37 => k_is);
    (case c37 => k_is);
    (case k37 => k_is);
    (case a38 => k_is);
    (case l38 => k_is);
    (case c38 => k_is);
    (case k38 => k_is);
    (case a39 => k_is);
    (case l39 => k_is);
    (case c39 => k_is);
    (case k39 => k_is);
    (case a40 => k_is);
    (case l40 => k_is);
    (case c40 => k_is);
    (case k40 => k_is);
    (case a41 => k_is);
    (case l41 => k_is);
    (case c41 => k_is);
    (case k41 => k_is);
    (case a42 => k_is);
    (case l42 => k_is);
    (case c42 => k_is);
    (case k42 => k_is);
    (case z0 => k_is);
    (case z1 => k_is);
    (case z2 => k_is);
    (case z3 => k_is);
    (case z4 => k_is);
    (case z5 => k_is);
    (case z6 => k_is);
    (case z7 => k_is);
    (case z8 => k_is)

