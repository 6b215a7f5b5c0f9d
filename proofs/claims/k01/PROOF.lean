import PyProof.Rows.All
import Wide.All
import OpenK.AllK
import Wide.FinOn
import HandS.ForMost
import HandS.Deep
import HandS.IsInst
import HandS.Style
import HandS.Walk
import HandS.WordsExc
import HandS.Exc
import HandS.Defaults
import HandS.HeadHook4
import HandS.HeadEnd
import KE.SortData
import KE.KDictKeyed
import HandS.TupAny
import HandS.TupMul
import HandS.TupLe
import KE.GoesEnum
import KE.GoesZip
import KE.GoesMore
import KE.KStateDown
import HandS.More
import HandS.Words
import HandS.Head0
import HandS.Head1
import HandS.Head2
import HandS.HeadHook1
import HandS.HeadHook2
import HandS.HeadHook3
import Lean
import PySem.Challenge.RW_staychosen_k01_rules_and_stands_recogniz
set_option Elab.async false
set_option linter.all false
set_option maxRecDepth 100000
/-! SC0: data D, the language E, S, its meaning. -/
namespace SC
open PySem L2

inductive D where
  | non | bl (b : Bool) | int (i : Int) | str (x : Str)
  | tup (xs : List D) | lst (xs : List D) | dct (ks vs : List D) | ref (k : Nat) | scr (xs : List D)
  deriving Inhabited
mutual
def D.dec : (a b : D) → Decidable (a = b)
  | .non, .non => .isTrue rfl
  | .bl a, .bl b => if h : a = b then .isTrue (h ▸ rfl) else .isFalse (fun e => h (D.bl.inj e))
  | .int a, .int b => if h : a = b then .isTrue (h ▸ rfl) else .isFalse (fun e => h (D.int.inj e))
  | .str a, .str b => if h : a = b then .isTrue (h ▸ rfl) else .isFalse (fun e => h (D.str.inj e))
  | .tup a, .tup b => match D.decs a b with | .isTrue h => .isTrue (h ▸ rfl) | .isFalse h => .isFalse (fun e => h (D.tup.inj e))
  | .lst a, .lst b => match D.decs a b with | .isTrue h => .isTrue (h ▸ rfl) | .isFalse h => .isFalse (fun e => h (D.lst.inj e))
  | .dct a c, .dct b d => match D.decs a b, D.decs c d with
    | .isTrue h, .isTrue h' => .isTrue (h ▸ h' ▸ rfl)
    | .isFalse h, _ => .isFalse (fun e => h (D.dct.inj e).1)
    | _, .isFalse h => .isFalse (fun e => h (D.dct.inj e).2)
  | .ref a, .ref b => if h : a = b then .isTrue (h ▸ rfl) else .isFalse (fun e => h (D.ref.inj e))
  | .scr a, .scr b => match D.decs a b with | .isTrue h => .isTrue (h ▸ rfl) | .isFalse h => .isFalse (fun e => h (D.scr.inj e))
  | .non, .bl _ | .non, .int _ | .non, .str _ | .non, .tup _ | .non, .lst _ | .non, .dct _ _ | .non, .ref _ | .non, .scr _ => .isFalse (fun e => nomatch e)
  | .bl _, .non | .bl _, .int _ | .bl _, .str _ | .bl _, .tup _ | .bl _, .lst _ | .bl _, .dct _ _ | .bl _, .ref _ | .bl _, .scr _ => .isFalse (fun e => nomatch e)
  | .int _, .non | .int _, .bl _ | .int _, .str _ | .int _, .tup _ | .int _, .lst _ | .int _, .dct _ _ | .int _, .ref _ | .int _, .scr _ => .isFalse (fun e => nomatch e)
  | .str _, .non | .str _, .bl _ | .str _, .int _ | .str _, .tup _ | .str _, .lst _ | .str _, .dct _ _ | .str _, .ref _ | .str _, .scr _ => .isFalse (fun e => nomatch e)
  | .tup _, .non | .tup _, .bl _ | .tup _, .int _ | .tup _, .str _ | .tup _, .lst _ | .tup _, .dct _ _ | .tup _, .ref _ | .tup _, .scr _ => .isFalse (fun e => nomatch e)
  | .lst _, .non | .lst _, .bl _ | .lst _, .int _ | .lst _, .str _ | .lst _, .tup _ | .lst _, .dct _ _ | .lst _, .ref _ | .lst _, .scr _ => .isFalse (fun e => nomatch e)
  | .dct _ _, .non | .dct _ _, .bl _ | .dct _ _, .int _ | .dct _ _, .str _ | .dct _ _, .tup _ | .dct _ _, .lst _ | .dct _ _, .ref _ | .dct _ _, .scr _ => .isFalse (fun e => nomatch e)
  | .ref _, .non | .ref _, .bl _ | .ref _, .int _ | .ref _, .str _ | .ref _, .tup _ | .ref _, .lst _ | .ref _, .dct _ _ | .ref _, .scr _ => .isFalse (fun e => nomatch e)
  | .scr _, .non | .scr _, .bl _ | .scr _, .int _ | .scr _, .str _ | .scr _, .tup _ | .scr _, .lst _ | .scr _, .dct _ _ | .scr _, .ref _ => .isFalse (fun e => nomatch e)
def D.decs : (a b : List D) → Decidable (a = b)
  | [], [] => .isTrue rfl
  | x :: xs, y :: ys => match D.dec x y, D.decs xs ys with
    | .isTrue h, .isTrue h' => .isTrue (h ▸ h' ▸ rfl)
    | .isFalse h, _ => .isFalse (fun e => h (List.cons.inj e).1)
    | _, .isFalse h => .isFalse (fun e => h (List.cons.inj e).2)
  | [], _ :: _ => .isFalse (fun e => nomatch e)
  | _ :: _, [] => .isFalse (fun e => nomatch e)
end
instance : DecidableEq D := D.dec

abbrev Store := List (List D)
inductive Sl where
  | no | val (d : D) | own (xs : List D) | ownd (kd : Bool) (ks vs : List D)
  deriving Inhabited, DecidableEq
abbrev Env := List Sl

inductive Res (α : Type) where
  | ok (a : α) | exc (c : String) (p : Option D) (μ : Store) | bad
def Res.bind {α β : Type} : Res α → (α → Res β) → Res β
  | .ok a, f => f a
  | .exc c p μ, _ => .exc c p μ
  | .bad, _ => .bad
instance : Monad Res where
  pure := .ok
  bind := Res.bind
def Res.lift {α : Type} (o : Option α) (μ : Store) : Res (α × Store) := match o with
  | some a => .ok (a, μ)
  | none => .bad
/-- nothing is raised out -/
def Res.calm {α : Type} : Res α → Res α
  | .ok a => .ok a
  | _ => .bad

inductive BOp where | add | sub | mul | fdiv | mod | pow deriving DecidableEq
inductive COp where | eq | ne | lt | le | gt | ge | isN | isntN | isin | notin deriving DecidableEq
inductive IK where | plain | range | enum | zip | items deriving DecidableEq
inductive BF where | len | int | min | max | tuple | list | sorted | all | any | sortset deriving DecidableEq

inductive E where
  | var (i : Nat) | k (d : D) | glob (x : String)
  | nil | cons (a r : E)
  | tup (es : E) | lst (es : E)
  | call (f : String) (es : E)
  | bin (op : BOp) (a b : E) | cmp (op : COp) (a b : E) | chain (op op' : COp) (a b c : E)
  | and (a b : E) | or (a b : E) | not (a : E) | ite (c a b : E) | neg (a : E)
  | idx (a i : E) | slc (a : E) (lo hi : E) | rev (a : E)
  | bi (f : BF) (es : E) | isi (a : E) (ts : List String)
  | comp (own tg : List Nat) (kd : IK) (src : E) (cnd : E) (elt : E)
  | alloc (a : E)
  | get (a b : E) | index (a b : E)
  | olen (i : Nat) | oidx (i : Nat) (e : E) | oin (neg : Bool) (e : E) (i : Nat)

inductive S where
  | skip | seq (a b : S) | expr (e : E)
  | set (tg : List Nat) (e : E)
  | par (tg : List (Nat × Nat)) (es : E)
  | own (i : Nat) (kd : Nat) (e : E)
  | app (i : Nat) (e : E) | setO (i : Nat) (ie e : E)
  | setR (a ie e : E) | popR (a ie : E) | insR (a ie e : E)
  | ife (c : E) (a b : S) | loop (tg : List Nat) (kd : IK) (src : E) (body : S) | while (c : E) (body : S)
  | ret (e : E) | frz (i : Nat) (a : S) | raise (c : String)

/-! ### what the operations give -/
def flat : D → Bool
  | .non => true | .bl _ => true | .int _ => true | .str _ => true | _ => false
def feq : D → D → Bool
  | .non, .non => true
  | .bl a, .bl b => a == b
  | .bl a, .int b => (if a then 1 else 0) == b
  | .int a, .bl b => a == (if b then 1 else 0)
  | .int a, .int b => a == b
  | .str a, .str b => a == b
  | _, _ => false
def fpy : D → PyData
  | .non => .none | .bl b => .bool b | .int i => .int i | .str x => .str x | _ => .dict []
mutual
def py (μ : Store) : D → PyData
  | .non => .none | .bl b => .bool b | .int i => .int i | .str x => .str x
  | .tup xs => .tuple (pyAll μ xs) | .lst xs => .list (pyAll μ xs)
  | .dct _ _ => .dict [] | .scr _ => .dict []
  | .ref k => match μ[k]? with | some xs => .list (xs.map fpy) | none => .dict []
def pyAll (μ : Store) : List D → List PyData
  | [] => []
  | x :: xs => py μ x :: pyAll μ xs
end
def seqOf (μ : Store) : D → Option (List D)
  | .lst xs => some xs | .tup xs => some xs | .ref k => μ[k]? | _ => none
def lstOf (μ : Store) : D → Option (List D)
  | .lst xs => some xs | .ref k => μ[k]? | _ => none
def pEq (μ : Store) (a b : D) : Option Bool :=
  if flat a && flat b then some (feq a b)
  else if SeqAt.shaped (py μ a) && SeqAt.shaped (py μ b) then some (PyData.eqv (py μ a) (py μ b)) else none
def pIn (μ : Store) (x c : D) : Option Bool := match seqOf μ c with
  | some ys => if flat x && ys.all flat then some (ys.any fun y => feq y x)
    else match lstOf μ c with
      | some _ => if SeqAt.shaped (py μ x) && SeqAt.shaped (py μ c) then (match py μ c with
          | .list ds => some (ds.any fun z => PyData.eqv z (py μ x))
          | _ => none) else none
      | none => none
  | none => none
def cut {α : Type} (xs : List α) (lo hi : Option Int) : List α := (xs.drop (HT.sIx xs.length 0 lo)).take (HT.sIx xs.length xs.length hi - HT.sIx xs.length 0 lo)
def pSlc (μ : Store) (a : D) (lo hi : Option Int) : Option D := match a with
  | .tup xs => some (.tup (cut xs lo hi))
  | .lst xs => some (.lst (cut xs lo hi))
  | .ref k => (μ[k]?).map fun xs => .lst (cut xs lo hi)
  | .scr xs => some (.lst (cut xs lo hi))
  | .str z => if z.length ≤ sizeLine then some (.str (cutS z lo hi)) else none
  | _ => none
def pRev (μ : Store) : D → Option D
  | .tup xs => some (.tup xs.reverse)
  | .lst xs => some (.lst xs.reverse)
  | .ref k => (μ[k]?).map fun xs => .lst xs.reverse
  | _ => none
def pIdx (μ : Store) (a i : D) : Option D := match i with
  | .int j => (seqOf μ a).bind fun xs => atI xs j
  | _ => none
def rep {α : Type} (xs : List α) (k : Int) : List α := (List.replicate k.toNat xs).flatten
def pAdd (μ : Store) (a b : D) : Option D := match a, b with
  | .int i, .int j => some (.int (i + j))
  | .str x, .str y => if x.length + y.length ≤ sizeLine then some (.str (x ++ y)) else none
  | .tup xs, .tup ys => if xs.length + ys.length ≤ sizeLine then some (.tup (xs ++ ys)) else none
  | _, _ => match lstOf μ a, lstOf μ b with
    | some xs, some ys => if xs.length + ys.length ≤ sizeLine then some (.lst (xs ++ ys)) else none
    | _, _ => none
def mulOk (i j : Int) : Bool := (decide (-(2 ^ 64) < i) && decide (i < 2 ^ 64)) || (decide (-(2 ^ 64) < j) && decide (j < 2 ^ 64))
def repOk (n : Nat) (k : Int) : Bool := decide (-(2 ^ 31) < k) && (decide (k < 2 ^ 31) && decide (n * k.toNat ≤ sizeLine))
def pMul (a b : D) : Option D := match a, b with
  | .int i, .int j => if mulOk i j then some (.int (i * j)) else none
  | .lst xs, .int k => if repOk xs.length k then some (.lst (rep xs k)) else none
  | .tup xs, .int k => if repOk xs.length k then some (.tup (rep xs k)) else none
  | _, _ => none
def pBin (op : BOp) (μ : Store) (a b : D) : Option D := match op with
  | .add => pAdd μ a b
  | .mul => pMul a b
  | .sub => (match a, b with | .int i, .int j => some (.int (i - j)) | _, _ => none)
  | .fdiv => (match a, b with | .int i, .int j => if 0 < j ∧ j < 1073741824 then some (.int (i / j)) else none | _, _ => none)
  | .mod => (match a, b with | .int i, .int j => if 0 < j then some (.int (i % j)) else none | _, _ => none)
  | .pow => (match a, b with | .int i, .int j => if 0 ≤ j ∧ j ≤ 1000000 ∧ i.natAbs < 2 ^ 64 then some (.int (i ^ j.toNat)) else none | _, _ => none)
def pCmp (op : COp) (μ : Store) (a b : D) : Option Bool := match op with
  | .eq => pEq μ a b
  | .ne => (pEq μ a b).map not
  | .lt => (match a, b with
    | .int i, .int j => some (decide (i < j))
    | .str x, .str y => some (decide (x.cps.toList < y.cps.toList))
    | _, _ => none)
  | .le => (match a, b with | .int i, .int j => some (decide (i ≤ j)) | _, _ => none)
  | .gt => (match a, b with | .int i, .int j => some (decide (j < i)) | _, _ => none)
  | .ge => (match a, b with | .int i, .int j => some (decide (j ≤ i)) | _, _ => none)
  | .isN => some (decide (a = .non))
  | .isntN => some (!decide (a = .non))
  | .isin => pIn μ a b
  | .notin => (pIn μ a b).map not
def isBl : D → Option Bool
  | .bl b => some b
  | _ => none
def allBl : List D → Option (List Bool)
  | [] => some []
  | .bl b :: r => (allBl r).map (b :: ·)
  | _ => none
def pTy (d : D) : Option String := match d with
  | .non => some "NoneType" | .bl _ => some "bool" | .int _ => some "int" | .str _ => some "str"
  | .tup _ => some "tuple" | .lst _ => some "list" | .ref _ => some "list" | .dct _ _ => none | .scr _ => none
def isTy (t : String) (c : String) : Bool := t == c || (t == "bool" && c == "int")
def pIsi (d : D) (ts : List String) : Option Bool := (pTy d).map fun t => ts.any (isTy t)
def lenD (μ : Store) (x : D) : Option D := match x with
  | .str z => if z.length ≤ sizeLine then some (.int z.length) else none
  | .dct ks _ => some (.int ks.length)
  | x => (seqOf μ x).map fun xs => .int xs.length
def listD (μ : Store) (x : D) : Option D := match x with
  | .dct ks _ => some (.lst ks)
  | x => (seqOf μ x).map .lst
def pBf (f : BF) (μ : Store) (ys : List D) : Option D := match f with
  | .len => (match ys with | [x] => lenD μ x | _ => none)
  | .int => (match ys with | [.int i] => some (.int i) | [.bl b] => some (.int (if b then 1 else 0)) | _ => none)
  | .min => (match ys with | [.int i, .int j] => some (.int (if j < i then j else i)) | _ => none)
  | .max => (match ys with | [.int i, .int j] => some (.int (if j > i then j else i)) | _ => none)
  | .tuple => (match ys with | [x] => (seqOf μ x).map .tup | _ => none)
  | .list => (match ys with | [x] => listD μ x | _ => none)
  | .all => (match ys with | [.lst xs] => (allBl xs).map fun bs => .bl (bs.all id) | _ => none)
  | .any => (match ys with | [.lst xs] => (allBl xs).map fun bs => .bl (bs.any id) | _ => none)
  | .sorted => none
  | .sortset => none
def enumFrom (i : Nat) : List D → List D
  | [] => []
  | x :: xs => .tup [.int i, x] :: enumFrom (i + 1) xs
def zip2 : List D → List D → List D
  | x :: xs, y :: ys => .tup [x, y] :: zip2 xs ys
  | _, _ => []
def zip3 : List D → List D → List D → List D
  | x :: xs, y :: ys, z :: zs => .tup [x, y, z] :: zip3 xs ys zs
  | _, _, _ => []
abbrev Gd := List (Nat × List D)
def gd (μ : Store) : D → Gd
  | .ref k => [(k, (μ[k]?).getD [])]
  | _ => []
def gOk (g : Gd) (μ : Store) : Bool := g.all fun p => decide (μ[p.1]? = some p.2)
def rgOk (a b : Int) : Bool := decide (-(2 ^ 62) ≤ a) && decide (a < 2 ^ 62) && decide (-(2 ^ 62) ≤ b) && decide (b < 2 ^ 62) && decide (b - a ≤ (sizeLine : Nat))
def rg (a b : Int) : List D := (List.range (b - a).toNat).map fun (i : Nat) => .int (a + i)
def pSrc (kd : IK) (μ : Store) (ys : List D) : Option (Gd × List D) := match kd, ys with
  | .plain, [.dct ks _] => some ([], ks)
  | .plain, [x] => (seqOf μ x).map fun xs => (gd μ x, xs)
  | .range, [.int b] => if rgOk 0 b then some ([], rg 0 b) else none
  | .range, [.int a, .int b] => if rgOk a b then some ([], rg a b) else none
  | .enum, [x] => (seqOf μ x).map fun xs => (gd μ x, enumFrom 0 xs)
  | .zip, [x, y] => (seqOf μ x).bind fun xs => (seqOf μ y).map fun ys => (gd μ x ++ gd μ y, zip2 xs ys)
  | .zip, [x, y, z] => (seqOf μ x).bind fun xs => (seqOf μ y).bind fun ys => (seqOf μ z).map fun zs => (gd μ x ++ (gd μ y ++ gd μ z), zip3 xs ys zs)
  | .items, [.dct ks vs] => some ([], zip2 ks vs)
  | _, _ => none
def bindAll : List Nat → List D → Env → Option Env
  | [], [], δ => some δ
  | i :: is, x :: xs, δ => bindAll is xs (δ.set i (.val x))
  | _, _, _ => none
def bindT (tg : List Nat) (x : D) (δ : Env) : Option Env := match tg with
  | [i] => some (δ.set i (.val x))
  | _ => (match x with
    | .tup xs => bindAll tg xs δ
    | _ => none)
def wipeE (δ : Env) : List Nat → Env
  | [] => δ
  | v :: vs => (wipeE δ vs).set v .no
def packOf : D → List D
  | .tup xs => xs
  | _ => []

/-- a comprehension's turns -/
def compLoop (f : D → Store → Res (Option D × Store)) (g : Gd) : List D → Store → Res (List D × Store)
  | [], μ => if gOk g μ then .ok ([], μ) else .bad
  | x :: xs, μ => if gOk g μ then (match f x μ with
      | .ok (r, μ1) => (match compLoop f g xs μ1 with
        | .ok (rs, μ2) => .ok (r.toList ++ rs, μ2)
        | .exc c p μ2 => .exc c p μ2
        | .bad => .bad)
      | .exc c p μ2 => .exc c p μ2
      | .bad => .bad) else .bad

abbrev Fn := String → List D → Store → Res (D × Store)
/-- the constants of the program -/
def strD (l : List String) : List D := l.map fun x => .str (Str.ofString x)
def globD (x : String) : Option D :=
  if x = "TESTS" then some (.tup (strD ["come", "go", "hide", "show", "act", "shown", "chosen", "main", "only", "empty"]))
  else if x = "DEEDS" then some (.tup (strD ["before", "choose", "keep", "next", "reach", "spare", "unchoose"]))
  else if x = "USUAL" then some (.tup [.tup [.tup (strD ["hide"]), .str (Str.ofString "unchoose")], .tup [.tup (strD ["go", "main"]), .str (Str.ofString "next")]])
  else if x = "MOST_CLAUSES" then some (.int 8)
  else if x = "FIRST" then some (.tup [.tup [], .int (-1)])
  else if x = "NEW" then some (.tup [.bl true, .bl false, .bl false])
  else if x = "CHANGES" then some (.tup (strD ["come", "go", "hide", "move", "show"]))
  else if x = "DECIDED" then some (.tup (strD ["come", "go", "hide", "show"]))
  else if x = "MOST_EVENTS" then some (.int 40)
  else if x = "HARMS" then some (.tup (strD ["dark", "grown", "lost", "missed", "strange", "unseen"]))
  else none

def rB (o : Option Bool) (μ : Store) : Res (D × Store) := match o with
  | some b => .ok (.bl b, μ)
  | none => .bad
def rD (o : Option D) (μ : Store) : Res (D × Store) := match o with
  | some d => .ok (d, μ)
  | none => .bad
def rT (d : D) : Res Bool := match d with
  | .bl b => .ok b
  | _ => .bad
def rI (d : D) : Res Int := match d with
  | .int b => .ok b
  | _ => .bad

/-- a slice's bound -/
def partE (e : E) (r : Res (D × Store)) (μ : Store) : Res (Option Int × Store) := match e with
  | .nil => .ok (none, μ)
  | _ => r.bind fun q => (rI q.1).bind fun i => .ok (some i, q.2)
def condE (e : E) (r : Res (D × Store)) (μ : Store) : Res (Bool × Store) := match e with
  | .nil => .ok (true, μ)
  | _ => r.bind fun q => (rT q.1).bind fun t => .ok (t, q.2)
def evalE (Φ : Fn) : E → Env → Store → Res (D × Store)
  | .var i, δ, μ => (match δ[i]? with
    | some (.val d) => .ok (d, μ)
    | _ => .bad)
  | .k d, _, μ => if flat d then .ok (d, μ) else .bad
  | .glob x, _, μ => rD (globD x) μ
  | .nil, _, μ => .ok (.tup [], μ)
  | .cons a r, δ, μ => (evalE Φ a δ μ).bind fun p => (evalE Φ r δ p.2).bind fun q => .ok (.tup (p.1 :: packOf q.1), q.2)
  | .tup es, δ, μ => (evalE Φ es δ μ).bind fun p => .ok (.tup (packOf p.1), p.2)
  | .lst es, δ, μ => (evalE Φ es δ μ).bind fun p => .ok (.lst (packOf p.1), p.2)
  | .call f es, δ, μ => (evalE Φ es δ μ).bind fun p => Φ f (packOf p.1) p.2
  | .bin op a b, δ, μ => (evalE Φ a δ μ).bind fun p => (evalE Φ b δ p.2).bind fun q => rD (pBin op q.2 p.1 q.1) q.2
  | .cmp op a b, δ, μ => (evalE Φ a δ μ).bind fun p => (evalE Φ b δ p.2).bind fun q => rB (pCmp op q.2 p.1 q.1) q.2
  | .chain op op' a b c, δ, μ => (evalE Φ a δ μ).bind fun p => (evalE Φ b δ p.2).bind fun q => (match pCmp op q.2 p.1 q.1 with
    | some true => (evalE Φ c δ q.2).bind fun r => rB (pCmp op' r.2 q.1 r.1) r.2
    | some false => .ok (.bl false, q.2)
    | none => .bad)
  | .and a b, δ, μ => (evalE Φ a δ μ).bind fun p => (rT p.1).bind fun c => if c then evalE Φ b δ p.2 else .ok (.bl false, p.2)
  | .or a b, δ, μ => (evalE Φ a δ μ).bind fun p => (rT p.1).bind fun c => if c then .ok (.bl true, p.2) else evalE Φ b δ p.2
  | .not a, δ, μ => (evalE Φ a δ μ).bind fun p => (rT p.1).bind fun c => .ok (.bl (!c), p.2)
  | .ite c a b, δ, μ => (evalE Φ c δ μ).bind fun p => (rT p.1).bind fun t => if t then evalE Φ a δ p.2 else evalE Φ b δ p.2
  | .neg a, δ, μ => (evalE Φ a δ μ).bind fun p => (rI p.1).bind fun i => .ok (.int (-i), p.2)
  | .idx a i, δ, μ => (evalE Φ a δ μ).bind fun p => (evalE Φ i δ p.2).bind fun q => rD (pIdx q.2 p.1 q.1) q.2
  | .slc a lo hi, δ, μ => (evalE Φ a δ μ).bind fun p =>
    (partE lo (evalE Φ lo δ p.2) p.2).bind fun l => (partE hi (evalE Φ hi δ l.2) l.2).bind fun h =>
    rD (pSlc h.2 p.1 l.1 h.1) h.2
  | .rev a, δ, μ => (evalE Φ a δ μ).bind fun p => rD (pRev p.2 p.1) p.2
  | .bi f es, δ, μ => (evalE Φ es δ μ).bind fun p => rD (pBf f p.2 (packOf p.1)) p.2
  | .isi a ts, δ, μ => (evalE Φ a δ μ).bind fun p => rB (pIsi p.1 ts) p.2
  | .comp own tg kd src cnd elt, δ, μ => (evalE Φ src δ μ).bind fun p => (match pSrc kd p.2 (packOf p.1) with
    | some (g, xs) => ((compLoop (fun x μ1 => (match bindT tg x (wipeE δ own) with
        | some δ1 => (condE cnd (evalE Φ cnd δ1 μ1) μ1).bind fun t =>
          if t.1 then (evalE Φ elt δ1 t.2).bind fun q => .ok (some q.1, q.2) else .ok (none, t.2)
        | none => .bad)) g xs p.2).bind fun q => .ok (.lst q.1, q.2)).calm
    | none => .bad)
  | .alloc a, δ, μ => (evalE Φ a δ μ).bind fun p => (match p.1 with
    | .lst xs => .ok (.ref p.2.length, p.2 ++ [xs])
    | _ => .bad)
  | .get _ _, _, _ => .bad
  | .index _ _, _, _ => .bad
  | .olen i, δ, μ => (match δ[i]? with
    | some (.own xs) => .ok (.int xs.length, μ)
    | _ => .bad)
  | .oidx i e, δ, μ => (match δ[i]? with
    | some (.own xs) => (evalE Φ e δ μ).bind fun p => (rI p.1).bind fun j => rD (atI xs j) p.2
    | _ => .bad)
  | .oin neg e i, δ, μ => (match δ[i]? with
    | some (.own xs) => (evalE Φ e δ μ).bind fun p => rB ((pIn p.2 p.1 (.lst xs)).map fun b => if neg then !b else b) p.2
    | _ => .bad)

inductive Fl where | nx | rt (d : D) | bk | ct
abbrev RS := Res (Fl × Env × Store)
def RS.bind (r : RS) (f : Env → Store → RS) : RS := match r with
  | .ok (.nx, δ, μ) => f δ μ
  | r => r
def forLoop (body : D → Env → Store → RS) (g : Gd) : List D → Env → Store → RS
  | [], δ, μ => if gOk g μ then .ok (.nx, δ, μ) else .bad
  | x :: xs, δ, μ => if gOk g μ then (match body x δ μ with
      | .ok (.nx, δ1, μ1) => forLoop body g xs δ1 μ1
      | .ok (.ct, δ1, μ1) => forLoop body g xs δ1 μ1
      | .ok (.bk, δ1, μ1) => .ok (.nx, δ1, μ1)
      | r => r) else .bad
def whileLoop (c : Env → Store → Res (Bool × Store)) (body : Env → Store → RS) : Nat → Env → Store → RS
  | 0, _, _ => .bad
  | n + 1, δ, μ => (match c δ μ with
    | .ok (true, μ1) => (match body δ μ1 with
      | .ok (.nx, δ1, μ2) => whileLoop c body n δ1 μ2
      | .ok (.ct, δ1, μ2) => whileLoop c body n δ1 μ2
      | .ok (.bk, δ1, μ2) => .ok (.nx, δ1, μ2)
      | r => r)
    | .ok (false, μ1) => .ok (.nx, δ, μ1)
    | .exc c p μ1 => .exc c p μ1
    | .bad => .bad)
/-- the turns that a while may take -/
def wfuel : Nat := 100000
def evT (r : Res (D × Store)) : Res (Bool × Store) := r.bind fun p => (rT p.1).bind fun t => .ok (t, p.2)
def ownOf (kd : Nat) (d : D) : Option Sl := match kd, d with
  | 0, d => some (.val d)
  | 1, .lst xs => some (.own xs)
  | 2, .dct ks vs => some (.ownd true ks vs)
  | 3, .dct ks vs => some (.ownd false ks vs)
  | _, _ => none
def bindOwn : List (Nat × Nat) → List D → Env → Option Env
  | [], [], δ => some δ
  | (i, kd) :: is, x :: xs, δ => (match ownOf kd x with
    | some s => bindOwn is xs (δ.set i s)
    | none => none)
  | _, _, _ => none
def evalS (Φ : Fn) : S → Env → Store → RS
  | .skip, δ, μ => .ok (.nx, δ, μ)
  | .seq a b, δ, μ => (evalS Φ a δ μ).bind fun δ1 μ1 => evalS Φ b δ1 μ1
  | .expr e, δ, μ => (evalE Φ e δ μ).bind fun p => .ok (.nx, δ, p.2)
  | .set tg e, δ, μ => (evalE Φ e δ μ).bind fun p => (match bindT tg p.1 δ with
    | some δ1 => .ok (.nx, δ1, p.2)
    | none => .bad)
  | .par tg es, δ, μ => (evalE Φ es δ μ).bind fun p => (match bindOwn tg (packOf p.1) δ with
    | some δ1 => .ok (.nx, δ1, p.2)
    | none => .bad)
  | .own i kd e, δ, μ => (evalE Φ e δ μ).bind fun p => (match ownOf kd p.1 with
    | some s => .ok (.nx, δ.set i s, p.2)
    | none => .bad)
  | .app i e, δ, μ => (match δ[i]? with
    | some (.own xs) => (evalE Φ e δ μ).bind fun p => if xs.length < sizeLine then .ok (.nx, δ.set i (.own (xs ++ [p.1])), p.2) else .bad
    | _ => .bad)
  | .setO i ie e, δ, μ => (match δ[i]? with
    | some (.own xs) => (evalE Φ e δ μ).bind fun p => (evalE Φ ie δ p.2).bind fun q => (rI q.1).bind fun j => (match ixN xs.length j with
      | some k => .ok (.nx, δ.set i (.own (xs.set k p.1)), q.2)
      | none => .bad)
    | _ => .bad)
  | .setR a ie e, δ, μ => (evalE Φ e δ μ).bind fun p => (evalE Φ a δ p.2).bind fun o => (evalE Φ ie δ o.2).bind fun q => (match o.1 with
    | .ref k => (rI q.1).bind fun j => (match q.2[k]? with
      | some xs => (match ixN xs.length j with
        | some m => .ok (.nx, δ, q.2.set k (xs.set m p.1))
        | none => .bad)
      | none => .bad)
    | _ => .bad)
  | .popR a ie, δ, μ => (evalE Φ a δ μ).bind fun o => (evalE Φ ie δ o.2).bind fun q => (match o.1 with
    | .ref k => (rI q.1).bind fun j => (match q.2[k]? with
      | some xs => (match ixN xs.length j with
        | some m => .ok (.nx, δ, q.2.set k (xs.eraseIdx m))
        | none => .bad)
      | none => .bad)
    | _ => .bad)
  | .insR a ie e, δ, μ => (evalE Φ a δ μ).bind fun o => (evalE Φ ie δ o.2).bind fun q => (evalE Φ e δ q.2).bind fun p => (match o.1 with
    | .ref k => (rI q.1).bind fun j => (match p.2[k]? with
      | some xs => if 0 ≤ j ∧ j ≤ xs.length ∧ xs.length < sizeLine then .ok (.nx, δ, p.2.set k (xs.take j.toNat ++ p.1 :: xs.drop j.toNat)) else .bad
      | none => .bad)
    | _ => .bad)
  | .ife c a b, δ, μ => (evT (evalE Φ c δ μ)).bind fun t => if t.1 then evalS Φ a δ t.2 else evalS Φ b δ t.2
  | .loop tg kd src body, δ, μ => (evalE Φ src δ μ).bind fun p => (match pSrc kd p.2 (packOf p.1) with
    | some (g, xs) => forLoop (fun x δ1 μ1 => (match bindT tg x δ1 with
        | some δ2 => evalS Φ body δ2 μ1
        | none => .bad)) g xs δ p.2
    | none => .bad)
  | .while c body, δ, μ => whileLoop (fun δ1 μ1 => evT (evalE Φ c δ1 μ1)) (fun δ1 μ1 => evalS Φ body δ1 μ1) wfuel δ μ
  | .ret e, δ, μ => (evalE Φ e δ μ).bind fun p => .ok (.rt p.1, δ, p.2)
  | .frz i a, δ, μ => (match δ[i]? with
    | some (.own xs) => evalS Φ a (δ.set i (.val (.lst xs))) μ
    | some (.ownd _ ks vs) => evalS Φ a (δ.set i (.val (.dct ks vs))) μ
    | _ => .bad)
  | .raise c, _, μ => .exc c none μ

structure FnDef where
  np : Nat
  ns : Nat
  body : S
def startE (ns : Nat) (ds : List D) : Env := ds.map .val ++ List.replicate (ns - ds.length) .no
def finish (r : RS) : Res (D × Store) := match r with
  | .ok (.nx, _, μ) => .ok (.non, μ)
  | .ok (.rt d, _, μ) => .ok (d, μ)
  | .ok _ => .bad
  | .exc c p μ => .exc c p μ
  | .bad => .bad
abbrev Tbl := String → Option FnDef
def callN (T : Tbl) : Nat → Fn
  | 0, _, _, _ => .bad
  | n + 1, f, ds, μ => match T f with
    | some fd => if ds.length = fd.np then finish (evalS (callN T n) fd.body (startE fd.ns ds) μ) else .bad
    | none => .bad
end SC

set_option Elab.async false
set_option linter.all false
set_option maxRecDepth 100000
set_option maxHeartbeats 1000000
/-! SC1: how D, a store and an environment stand in the abstract heap; what carries them on. -/
namespace SC
open PySem PySem.Spec PyProof.Rows L2

mutual
inductive Rdv (K : PySem.W.Frag) (m : List Addr) (hb : Hp) : V → D → Prop
  | non : Rdv K m hb .non .non
  | bl (b : Bool) : Rdv K m hb (.bl b) (.bl b)
  | int (i : Int) : Rdv K m hb (.int i) (.int i)
  | str (x : Str) : Rdv K m hb (.str x) (.str x)
  | tup {a : Addr} {vs : List V} {xs : List D} : SqT K hb a vs → RdAll K m hb vs xs → Rdv K m hb (.ref a) (.tup xs)
  | lst {a : Addr} {vs : List V} {xs : List D} : L2.Rd hb a (.lst vs) → RdAll K m hb vs xs → Rdv K m hb (.ref a) (.lst xs)
  | ref {k : Nat} {a : Addr} : m[k]? = some a → Rdv K m hb (.ref a) (.ref k)
  | scr {a : Addr} {vs : List V} {xs : List D} : SqL K hb a vs → RdAll K m hb vs xs → Rdv K m hb (.ref a) (.scr xs)
inductive RdAll (K : PySem.W.Frag) (m : List Addr) (hb : Hp) : List V → List D → Prop
  | nil : RdAll K m hb [] []
  | cons {v : V} {vs : List V} {d : D} {ds : List D} : Rdv K m hb v d → RdAll K m hb vs ds → RdAll K m hb (v :: vs) (d :: ds)
end
abbrev Sub (H H' : Hp) : Prop := ∀ a o, H a = some o → H' a = some o
abbrev Pre (m m' : List Addr) : Prop := ∀ (k : Nat) (a : Addr), m[k]? = some a → m'[k]? = some a
section
variable {K : PySem.W.Frag} {m m' : List Addr} {hb hb' H H' : Hp} {a : Addr} {vs : List V} {xs : List D}
theorem rd_sub {u : HO} (s : Sub hb hb') (h : L2.Rd hb a u) : L2.Rd hb' a u := by
  rcases h with h | ⟨o, h⟩
  · exact .inl (s _ _ h)
  · exact .inr ⟨o, s _ _ h⟩
theorem sqL_sub (s : Sub hb hb') (h : SqL K hb a vs) : SqL K hb' a vs := by
  rcases h with h | h
  · exact .inl (rd_sub s h)
  · exact .inr h
theorem sqT_sub (s : Sub hb hb') (h : SqT K hb a vs) : SqT K hb' a vs := by
  rcases h with h | h
  · exact .inl (rd_sub s h)
  · exact .inr h
mutual
theorem Rdv.mono (p : Pre m m') (s : Sub hb hb') : ∀ {v : V} {d : D}, Rdv K m hb v d → Rdv K m' hb' v d
  | _, _, .non => .non
  | _, _, .bl b => .bl b
  | _, _, .int i => .int i
  | _, _, .str x => .str x
  | _, _, .tup h r => .tup (sqT_sub s h) (RdAll.mono p s r)
  | _, _, .lst h r => .lst (rd_sub s h) (RdAll.mono p s r)
  | _, _, .ref h => .ref (p _ _ h)
  | _, _, .scr h r => .scr (sqL_sub s h) (RdAll.mono p s r)
theorem RdAll.mono (p : Pre m m') (s : Sub hb hb') : ∀ {vs : List V} {xs : List D}, RdAll K m hb vs xs → RdAll K m' hb' vs xs
  | _, _, .nil => .nil
  | _, _, .cons h t => .cons (Rdv.mono p s h) (RdAll.mono p s t)
end
theorem RdAll.length : ∀ {vs : List V} {xs : List D}, RdAll K m hb vs xs → vs.length = xs.length
  | _, _, .nil => rfl
  | _, _, .cons _ t => by rw [List.length_cons, List.length_cons, RdAll.length t]
theorem RdAll.append : ∀ {vs ws : List V} {xs ys : List D}, RdAll K m hb vs xs → RdAll K m hb ws ys → RdAll K m hb (vs ++ ws) (xs ++ ys)
  | _, _, _, _, .nil, h => h
  | _, _, _, _, .cons h t, h' => .cons h (RdAll.append t h')
theorem RdAll.take : ∀ {vs : List V} {xs : List D} (n : Nat), RdAll K m hb vs xs → RdAll K m hb (vs.take n) (xs.take n)
  | _, _, 0, _ => .nil
  | _, _, _ + 1, .nil => .nil
  | _, _, n + 1, .cons h t => .cons h (RdAll.take n t)
theorem RdAll.drop : ∀ {vs : List V} {xs : List D} (n : Nat), RdAll K m hb vs xs → RdAll K m hb (vs.drop n) (xs.drop n)
  | _, _, 0, h => h
  | _, _, _ + 1, .nil => .nil
  | _, _, n + 1, .cons _ t => RdAll.drop n t
theorem RdAll.set : ∀ {vs : List V} {xs : List D} (n : Nat) {v : V} {d : D}, Rdv K m hb v d → RdAll K m hb vs xs → RdAll K m hb (vs.set n v) (xs.set n d)
  | _, _, _, _, _, _, .nil => .nil
  | _, _, 0, _, _, r, .cons _ t => .cons r t
  | _, _, n + 1, _, _, r, .cons h t => .cons h (RdAll.set n r t)
theorem RdAll.eraseIdx : ∀ {vs : List V} {xs : List D} (n : Nat), RdAll K m hb vs xs → RdAll K m hb (vs.eraseIdx n) (xs.eraseIdx n)
  | _, _, _, .nil => .nil
  | _, _, 0, .cons _ t => t
  | _, _, n + 1, .cons h t => .cons h (RdAll.eraseIdx n t)
theorem RdAll.reverse {vs : List V} {xs : List D} (h : RdAll K m hb vs xs) : RdAll K m hb vs.reverse xs.reverse := by
  have key : ∀ {vs : List V} {xs : List D}, RdAll K m hb vs xs → ∀ {ws : List V} {ys : List D}, RdAll K m hb ws ys → RdAll K m hb (vs.reverseAux ws) (xs.reverseAux ys) := by
    intro vs
    induction vs with
    | nil => intro xs h ws ys h'; cases h; exact h'
    | cons v vs ih => intro xs h ws ys h'; cases h with | cons h t => exact ih t (.cons h h')
  exact key h .nil
theorem RdAll.get : ∀ {vs : List V} {xs : List D} {i : Nat} {d : D}, RdAll K m hb vs xs → xs[i]? = some d → ∃ v, vs[i]? = some v ∧ Rdv K m hb v d
  | _, _, _, _, .nil, e => by simp at e
  | _, _, 0, _, .cons h _, e => by simp at e; subst e; exact ⟨_, rfl, h⟩
  | _, _, i + 1, d, .cons _ t, e => by
    obtain ⟨v, h1, h2⟩ := RdAll.get (i := i) (d := d) t (by simpa using e)
    exact ⟨v, by simpa using h1, h2⟩
theorem RdAll.getV : ∀ {vs : List V} {xs : List D} {i : Nat} {v : V}, RdAll K m hb vs xs → vs[i]? = some v → ∃ d, xs[i]? = some d ∧ Rdv K m hb v d
  | _, _, _, _, .nil, e => by simp at e
  | _, _, 0, _, .cons h _, e => by simp at e; subst e; exact ⟨_, rfl, h⟩
  | _, _, i + 1, d, .cons _ t, e => by
    obtain ⟨v, h1, h2⟩ := RdAll.getV (i := i) (v := d) t (by simpa using e)
    exact ⟨v, by simpa using h1, h2⟩
theorem RdAll.rep {vs : List V} {xs : List D} (h : RdAll K m hb vs xs) : ∀ k : Nat, RdAll K m hb (List.replicate k vs).flatten (List.replicate k xs).flatten
  | 0 => .nil
  | k + 1 => by rw [List.replicate_succ, List.replicate_succ, List.flatten_cons, List.flatten_cons]; exact h.append (RdAll.rep h k)
end

/-- the store's cells stand, apart from what is read -/
structure Rel (K : PySem.W.Frag) (m : List Addr) (hb H : Hp) (μ : Store) : Prop where
  sub : Sub hb H
  len : m.length = μ.length
  nd : m.Nodup
  cell : ∀ (k : Nat) (a : Addr), m[k]? = some a → hb a = none ∧ ∃ vs xs, μ[k]? = some xs ∧ H a = some (.lst vs) ∧ RdAll K m hb vs xs
/-- what one may have done -/
structure Step (m : List Addr) (hb H : Hp) (m' : List Addr) (hb' H' : Hp) : Prop where
  pre : Pre m m'
  sub : Sub hb hb'
  fr : ∀ a o, H a = some o → a ∉ m → H' a = some o
  keep : ∀ a, H a ≠ none → H' a ≠ none
  newm : ∀ a, a ∈ m' → a ∈ m ∨ H a = none
  newb : ∀ a, hb' a ≠ none → hb a ≠ none ∨ H a = none
/-- .. at the least -/
structure Wk (m : List Addr) (hb : Hp) (m' : List Addr) (hb' : Hp) : Prop where
  pre : Pre m m'
  sub : Sub hb hb'
theorem Wk.refl {m : List Addr} {hb : Hp} : Wk m hb m hb := ⟨fun _ _ h => h, fun _ _ h => h⟩
theorem Wk.trans {m m1 m2 : List Addr} {hb hb1 hb2 : Hp} (a : Wk m hb m1 hb1) (b : Wk m1 hb1 m2 hb2) : Wk m hb m2 hb2 := ⟨fun k x h => b.pre k x (a.pre k x h), fun x o h => b.sub x o (a.sub x o h)⟩
theorem Step.wk {m m' : List Addr} {hb hb' H H' : Hp} (s : Step m hb H m' hb' H') : Wk m hb m' hb' := ⟨s.pre, s.sub⟩
section
variable {K : PySem.W.Frag} {m m1 m2 m' : List Addr} {hb hb1 hb2 hb' H H1 H2 H' : Hp} {μ : Store}
theorem Step.refl : Step m hb H m hb H := ⟨fun _ _ h => h, fun _ _ h => h, fun _ _ h _ => h, fun _ h => h, fun _ h => .inl h, fun _ h => .inl h⟩
theorem Step.trans (a : Step m hb H m1 hb1 H1) (b : Step m1 hb1 H1 m2 hb2 H2) : Step m hb H m2 hb2 H2 where
  pre := fun k x h => b.pre k x (a.pre k x h)
  sub := fun x o h => b.sub x o (a.sub x o h)
  fr := fun x o h n => by
    refine b.fr x o (a.fr x o h n) fun z => ?_
    rcases a.newm x z with q | q
    · exact n q
    · rw [h] at q; cases q
  keep := fun x h => b.keep x (a.keep x h)
  newm := fun x h => by
    rcases b.newm x h with q | q
    · exact a.newm x q
    · cases e : H x with
      | none => exact .inr rfl
      | some o => exact absurd q (a.keep x (by rw [e]; exact fun z => by cases z))
  newb := fun x h => by
    rcases b.newb x h with q | q
    · exact a.newb x q
    · cases e : H x with
      | none => exact .inr rfl
      | some o => exact absurd q (a.keep x (by rw [e]; exact fun z => by cases z))
theorem Rel.tr (r : Rel K m hb H μ) {a : Addr} (h : a ∈ m) : H a ≠ none ∧ hb a = none := by
  obtain ⟨k, e⟩ := List.mem_iff_getElem?.mp h
  obtain ⟨h1, vs, xs, _, h2, _⟩ := r.cell k a e
  refine ⟨?_, h1⟩
  rw [h2]
  exact fun z => by cases z
theorem Rel.fresh (r : Rel K m hb H μ) {p : Addr} (h : H p = none) : hb p = none ∧ p ∉ m := by
  refine ⟨?_, fun z => (r.tr z).1 h⟩
  cases e : hb p with
  | none => rfl
  | some o => rw [r.sub p o e] at h; cases h
theorem Rel.at {k : Nat} {xs : List D} (r : Rel K m hb H μ) (e : μ[k]? = some xs) : ∃ a vs, m[k]? = some a ∧ H a = some (.lst vs) ∧ RdAll K m hb vs xs := by
  have hk : k < m.length := by rw [r.len]; exact (List.getElem?_eq_some_iff.mp e).1
  obtain ⟨_, vs, ys, h1, h2, h3⟩ := r.cell k m[k] (List.getElem?_eq_getElem hk)
  rw [e] at h1; cases h1
  exact ⟨_, vs, List.getElem?_eq_getElem hk, h2, h3⟩
/-- a new object that is read: a tuple, a list -/
theorem Rel.laid {p : Addr} {o : HO} (r : Rel K m hb H μ) (h : H p = none) : Rel K m (upd hb p o) (upd H p o) μ ∧ Step m hb H m (upd hb p o) (upd H p o) := by
  obtain ⟨hn, hm⟩ := r.fresh h
  have sb : Sub hb (upd hb p o) := fun a u e => by rw [upd_ne (ne_of_none e hn)]; exact e
  have sH : Sub H (upd H p o) := fun a u e => by rw [upd_ne (ne_of_none e h)]; exact e
  refine ⟨⟨fun a u e => ?_, r.len, r.nd, fun k a e => ?_⟩, ⟨fun _ _ e => e, sb, fun a u e _ => sH a u e, fun a e => ?_, fun _ e => .inl e, fun a e => ?_⟩⟩
  · by_cases ha : a = p
    · subst ha; rw [upd_same] at e; cases e; rw [upd_same]
    · rw [upd_ne ha] at e; rw [upd_ne ha]; exact r.sub a u e
  · obtain ⟨h1, vs, xs, h2, h3, h4⟩ := r.cell k a e
    have ha : a ≠ p := ne_of_none h3 h
    exact ⟨by rw [upd_ne ha]; exact h1, vs, xs, h2, sH _ _ h3, h4.mono (fun _ _ e => e) sb⟩
  · cases q : H a with
    | none => exact absurd q e
    | some u => rw [sH a u q]; exact fun z => by cases z
  · by_cases ha : a = p
    · exact .inr (by rw [ha]; exact h)
    · rw [upd_ne ha] at e; exact .inl e
/-- a new object that is not read (own) -/
theorem Rel.put {p : Addr} {o : HO} (r : Rel K m hb H μ) (h : hb p = none) (hm : p ∉ m) : Rel K m hb (upd H p o) μ := by
  refine ⟨fun a u e => ?_, r.len, r.nd, fun k a e => ?_⟩
  · rw [upd_ne (ne_of_none e h)]; exact r.sub a u e
  · obtain ⟨h1, vs, xs, h2, h3, h4⟩ := r.cell k a e
    have ha : a ≠ p := fun z => hm (by rw [← z]; exact List.mem_of_getElem? e)
    exact ⟨h1, vs, xs, h2, by rw [upd_ne ha]; exact h3, h4⟩
theorem Step.put {p : Addr} {o : HO} (h : H p = none) : Step m hb H m hb (upd H p o) := by
  refine ⟨fun _ _ e => e, fun _ _ e => e, fun a u e _ => by rw [upd_ne (ne_of_none e h)]; exact e, fun a e => ?_, fun _ e => .inl e, fun _ e => .inl e⟩
  rw [upd_ne (fun z => e (by rw [z]; exact h))]; exact e
/-- what was own is read from now on -/
theorem Rel.own {p : Addr} {o : HO} (r : Rel K m hb H μ) (h : H p = some o) (hn : hb p = none) (hm : p ∉ m) : Rel K m (upd hb p o) H μ := by
  have sb : Sub hb (upd hb p o) := fun a u e => by rw [upd_ne (ne_of_none e hn)]; exact e
  refine ⟨fun a u e => ?_, r.len, r.nd, fun k a e => ?_⟩
  · by_cases ha : a = p
    · subst ha; rw [upd_same] at e; cases e; exact h
    · rw [upd_ne ha] at e; exact r.sub a u e
  · obtain ⟨h1, vs, xs, h2, h3, h4⟩ := r.cell k a e
    have ha : a ≠ p := fun z => hm (by rw [← z]; exact List.mem_of_getElem? e)
    exact ⟨by rw [upd_ne ha]; exact h1, vs, xs, h2, h3, h4.mono (fun _ _ e => e) sb⟩
/-- a cell written -/
theorem Rel.wr {k : Nat} {a : Addr} {vs ws : List V} {ys : List D} (r : Rel K m hb H μ) (e : m[k]? = some a) (hr : RdAll K m hb ws ys) : Rel K m hb (upd H a (.lst ws)) (μ.set k ys) := by
  obtain ⟨h0, _⟩ := r.cell k a e
  refine ⟨fun b u q => ?_, by rw [List.length_set]; exact r.len, r.nd, fun j b q => ?_⟩
  · rw [upd_ne (ne_of_none q h0)]; exact r.sub b u q
  · obtain ⟨h1, vs, xs, h2, h3, h4⟩ := r.cell j b q
    by_cases hj : j = k
    · subst hj
      rw [e] at q; cases q
      refine ⟨h1, ws, ys, ?_, upd_same, hr⟩
      rw [List.getElem?_set_self (List.getElem?_eq_some_iff.mp h2).1]
    · have hab : b ≠ a := fun z => hj (by
        subst z
        exact (List.getElem?_inj (List.getElem?_eq_some_iff.mp q).1 r.nd).mp (q.trans e.symm))
      refine ⟨h1, vs, xs, ?_, by rw [upd_ne hab]; exact h3, h4⟩
      rw [List.getElem?_set_ne (Ne.symm hj)]; exact h2
theorem Step.wr {k : Nat} {a : Addr} {o : HO} (e : m[k]? = some a) : Step m hb H m hb (upd H a o) := by
  have hm : a ∈ m := List.mem_of_getElem? e
  refine ⟨fun _ _ e => e, fun _ _ e => e, fun b u q n => by rw [upd_ne (fun z => n (by rw [z]; exact hm))]; exact q, fun b q => ?_, fun _ e => .inl e, fun _ e => .inl e⟩
  by_cases hb : b = a
  · subst hb; rw [upd_same]; exact fun z => by cases z
  · rw [upd_ne hb]; exact q
/-- a new list becomes a cell -/
theorem Rel.cellNew {p : Addr} {vs : List V} {xs : List D} (r : Rel K m hb H μ) (h : H p = some (.lst vs)) (hn : hb p = none) (hm : p ∉ m) (hr : RdAll K m hb vs xs) : Rel K (m ++ [p]) hb H (μ ++ [xs]) := by
  have pr : Pre m (m ++ [p]) := fun k a e => by rw [List.getElem?_append_left (List.getElem?_eq_some_iff.mp e).1]; exact e
  refine ⟨r.sub, by rw [List.length_append, List.length_append, r.len]; rfl, ?_, fun k a e => ?_⟩
  · rw [List.nodup_append]
    exact ⟨r.nd, by simp, fun a ha b hb => by simp at hb; subst hb; exact fun z => hm (z ▸ ha)⟩
  · by_cases hk : k < m.length
    · rw [List.getElem?_append_left hk] at e
      obtain ⟨h1, vs, xs, h2, h3, h4⟩ := r.cell k a e
      exact ⟨h1, vs, xs, by rw [List.getElem?_append_left (by rw [← r.len]; exact hk)]; exact h2, h3, h4.mono pr fun _ _ e => e⟩
    · have e' := e
      rw [List.getElem?_append_right (by omega)] at e'
      have hk2 : k - m.length = 0 := by
        have := (List.getElem?_eq_some_iff.mp e').1
        simp at this
        omega
      rw [hk2] at e'
      simp at e'
      subst e'
      refine ⟨hn, vs, xs, ?_, h, hr.mono pr fun _ _ e => e⟩
      rw [List.getElem?_append_right (by rw [← r.len]; omega), ← r.len, hk2]
      rfl
end

/-! ### an environment -/
def isOwn : Sl → Bool
  | .own _ => true
  | .ownd _ _ _ => true
  | _ => false
structure Slots (K : PySem.W.Frag) (m : List Addr) (hb H : Hp) (δ : Env) (σ : L2.St) : Prop where
  len : δ.length = σ.length
  val : ∀ (i : Nat) (d : D), δ[i]? = some (.val d) → ∃ v, σ[i]? = some (some v) ∧ Rdv K m hb v d
  own : ∀ (i : Nat) (xs : List D), δ[i]? = some (.own xs) → ∃ (p : Addr) (vs : List V), σ[i]? = some (some (.ref p)) ∧ H p = some (.lst vs) ∧ hb p = none ∧ p ∉ m ∧ RdAll K m hb vs xs
  ownd : ∀ (i : Nat) (kd : Bool) (ks vs : List D), δ[i]? ≠ some (.ownd kd ks vs)
  sep : ∀ (i j : Nat) (s t : Sl) (p : Addr), i ≠ j → δ[i]? = some s → δ[j]? = some t → isOwn s = true → isOwn t = true → σ[i]? = some (some (.ref p)) → σ[j]? ≠ some (some (.ref p))
section
variable {K : PySem.W.Frag} {m m' : List Addr} {hb hb' H H' : Hp} {δ : Env} {σ : L2.St}
theorem Slots.step (s : Slots K m hb H δ σ) (t : Step m hb H m' hb' H') : Slots K m' hb' H' δ σ where
  len := s.len
  val := fun i d e => let ⟨v, h1, h2⟩ := s.val i d e; ⟨v, h1, h2.mono t.pre t.sub⟩
  own := fun i xs e => by
    obtain ⟨p, vs, h1, h2, h3, h4, h5⟩ := s.own i xs e
    refine ⟨p, vs, h1, t.fr p _ h2 h4, ?_, fun z => ?_, h5.mono t.pre t.sub⟩
    · cases q : hb' p with
      | none => rfl
      | some o =>
        rcases t.newb p (by rw [q]; exact fun z => by cases z) with z | z
        · exact absurd h3 z
        · rw [h2] at z; cases z
    · rcases t.newm p z with q | q
      · exact h4 q
      · rw [h2] at q; cases q
  ownd := s.ownd
  sep := s.sep
/-- one slot set to a value -/
theorem Slots.set {i : Nat} {v : V} {d : D} (s : Slots K m hb H δ σ) (r : Rdv K m hb v d) : Slots K m hb H (δ.set i (.val d)) (σ.set i (some v)) := by
  have low : ∀ {j : Nat} {t : Sl}, j ≠ i → (δ.set i (.val d))[j]? = some t → δ[j]? = some t := fun {j t} hj e => by rwa [List.getElem?_set_ne (Ne.symm hj)] at e
  have ine : ∀ {j : Nat} {t : Sl}, (δ.set i (.val d))[j]? = some t → isOwn t = true → j ≠ i := fun {j t} e ow z => by
    subst z
    by_cases hj : j < δ.length
    · rw [List.getElem?_set_self hj] at e; cases e; cases ow
    · rw [List.getElem?_eq_none (by simpa using hj)] at e; cases e
  refine ⟨by simpa using s.len, fun j x e => ?_, fun j xs e => ?_, fun j kd ks ws e => ?_, fun j l a b p hne e1 e2 o1 o2 q1 => ?_⟩
  · by_cases hj : j = i
    · subst hj
      by_cases hl : j < δ.length
      · rw [List.getElem?_set_self hl] at e; cases e
        exact ⟨v, by rw [List.getElem?_set_self (by rw [← s.len]; exact hl)], r⟩
      · rw [List.getElem?_eq_none (by simpa using hl)] at e; cases e
    · obtain ⟨w, h1, h2⟩ := s.val j x (low hj e)
      exact ⟨w, by rw [List.getElem?_set_ne (Ne.symm hj)]; exact h1, h2⟩
  · have hj := ine e rfl
    obtain ⟨p, vs, h1, h2⟩ := s.own j xs (low hj e)
    exact ⟨p, vs, by rw [List.getElem?_set_ne (Ne.symm hj)]; exact h1, h2⟩
  · exact s.ownd j kd ks ws (low (ine e rfl) e)
  · have hj := ine e1 o1
    have hl := ine e2 o2
    rw [List.getElem?_set_ne (Ne.symm hj)] at q1
    rw [List.getElem?_set_ne (Ne.symm hl)]
    exact s.sep j l a b p hne (low hj e1) (low hl e2) o1 o2 q1
/-- one slot forgotten -/
theorem Slots.no {i : Nat} {v : Option V} (s : Slots K m hb H δ σ) : Slots K m hb H (δ.set i .no) (σ.set i v) := by
  have ine : ∀ {j : Nat} {t : Sl}, (δ.set i .no)[j]? = some t → t ≠ .no → j ≠ i ∧ δ[j]? = some t := fun {j t} e ow => by
    have hj : j ≠ i := fun z => by
      subst z
      by_cases hj : j < δ.length
      · rw [List.getElem?_set_self hj] at e; cases e; exact ow rfl
      · rw [List.getElem?_eq_none (by simpa using hj)] at e; cases e
    exact ⟨hj, by rwa [List.getElem?_set_ne (Ne.symm hj)] at e⟩
  have nn : ∀ {t : Sl}, isOwn t = true → t ≠ .no := fun {t} h z => by subst z; cases h
  refine ⟨by simpa using s.len, fun j x e => ?_, fun j xs e => ?_, fun j kd ks ws e => ?_, fun j l a b p hne e1 e2 o1 o2 q1 => ?_⟩
  · obtain ⟨hj, e⟩ := ine e (fun z => nomatch z)
    obtain ⟨w, h1, h2⟩ := s.val j x e
    exact ⟨w, by rw [List.getElem?_set_ne (Ne.symm hj)]; exact h1, h2⟩
  · obtain ⟨hj, e⟩ := ine e (fun z => nomatch z)
    obtain ⟨p, vs, h1, h2⟩ := s.own j xs e
    exact ⟨p, vs, by rw [List.getElem?_set_ne (Ne.symm hj)]; exact h1, h2⟩
  · exact s.ownd j kd ks ws (ine e (fun z => nomatch z)).2
  · obtain ⟨hj, e1⟩ := ine e1 (nn o1)
    obtain ⟨hl, e2⟩ := ine e2 (nn o2)
    rw [List.getElem?_set_ne (Ne.symm hj)] at q1
    rw [List.getElem?_set_ne (Ne.symm hl)]
    exact s.sep j l a b p hne e1 e2 o1 o2 q1
theorem Slots.wipe (s : Slots K m hb H δ σ) : ∀ vs : List Nat, Slots K m hb H (wipeE δ vs) (wipe σ vs)
  | [] => s
  | v :: vs => by unfold wipeE L2.wipe; exact (Slots.wipe s vs).no
end

/-! ### what an expression comes to -/
def exW (K : PySem.W.Frag) (E : XK) (c : String) (p : Option D) (H' : Hp) : Prop := p = none ∧ E (.ref (He.ga K c)) none H'
/-- behind it -/
def Ev (K : PySem.W.Frag) (E : XK) (r : Res (D × Store)) (m : List Addr) (hb H : Hp) (Q : VK) : Prop := match r with
  | .ok (d, μ') => ∀ v m' hb' H', Step m hb H m' hb' H' → Rel K m' hb' H' μ' → Rdv K m' hb' v d → Q v H'
  | .exc c p μ' => ∀ m' hb' H', Step m hb H m' hb' H' → Rel K m' hb' H' μ' → exW K E c p H'
  | .bad => False
def EvT (K : PySem.W.Frag) (E : XK) (r : Res (Bool × Store)) (m : List Addr) (hb H : Hp) (Q : Bool → Hp → Prop) : Prop := match r with
  | .ok (d, μ') => ∀ m' hb' H', Step m hb H m' hb' H' → Rel K m' hb' H' μ' → Q d H'
  | .exc c p μ' => ∀ m' hb' H', Step m hb H m' hb' H' → Rel K m' hb' H' μ' → exW K E c p H'
  | .bad => False
def EvA (K : PySem.W.Frag) (E : XK) (r : Res (D × Store)) (m : List Addr) (hb H : Hp) (Q : List V → Hp → Prop) : Prop := match r with
  | .ok (d, μ') => ∀ vs m' hb' H', Step m hb H m' hb' H' → Rel K m' hb' H' μ' → RdAll K m' hb' vs (packOf d) → Q vs H'
  | .exc c p μ' => ∀ m' hb' H', Step m hb H m' hb' H' → Rel K m' hb' H' μ' → exW K E c p H'
  | .bad => False
def tS (K : PySem.W.Frag) (E : XK) (Φ : Fn) (A : SC.E) : TE := fun σ H Q => ∃ m hb δ μ, Rel K m hb H μ ∧ Slots K m hb H δ σ ∧ Ev K E (evalE Φ A δ μ) m hb H Q
def tST (K : PySem.W.Frag) (E : XK) (Φ : Fn) (A : SC.E) : TT := fun σ H Q => ∃ m hb δ μ, Rel K m hb H μ ∧ Slots K m hb H δ σ ∧ EvT K E (evT (evalE Φ A δ μ)) m hb H Q
def tSA (K : PySem.W.Frag) (E : XK) (Φ : Fn) (A : SC.E) : TA := fun σ H Q => ∃ m hb δ μ, Rel K m hb H μ ∧ Slots K m hb H δ σ ∧ EvA K E (evalE Φ A δ μ) m hb H Q

def SE (X : Cx) (E : XK) (Φ : Fn) (e : Expr) (A : SC.E) : Prop := PE X e (tS X.K E Φ A)
def ST (X : Cx) (E : XK) (Φ : Fn) (e : Expr) (A : SC.E) : Prop := PT X e (tST X.K E Φ A)
def SA (X : Cx) (E : XK) (Φ : Fn) (es : List Expr) (A : SC.E) : Prop := PA X es (tSA X.K E Φ A)

theorem PE.mono {X : Cx} {e : Expr} {t t' : TE} (h : PE X e t) (i : ∀ σ H Q, t' σ H Q → t σ H Q) : PE X e t' := ⟨fun pins s σ H Q I q => h.run pins s σ H Q I (i _ _ _ q)⟩
theorem PT.mono {X : Cx} {e : Expr} {t t' : TT} (h : PT X e t) (i : ∀ σ H Q, t' σ H Q → t σ H Q) : PT X e t' := ⟨fun pins s σ H Q I q => h.run pins s σ H Q I (i _ _ _ q)⟩
theorem PA.mono {X : Cx} {e : List Expr} {t t' : TA} (h : PA X e t) (i : ∀ σ H Q, t' σ H Q → t σ H Q) : PA X e t' := ⟨fun pos pins s σ H Q I q => h.run pos pins s σ H Q I (i _ _ _ q)⟩
theorem PS.mono {X : Cx} {e : Stmt} {t t' : TS} (h : PS X e t) (i : ∀ D σ H, t' D σ H → t D σ H) : PS X e t' := ⟨fun pins s σ H Q I q => h.run pins s σ H Q I (i _ _ _ q)⟩
theorem PSs.mono {X : Cx} {e : List Stmt} {t t' : TS} (h : PSs X e t) (i : ∀ D σ H, t' D σ H → t D σ H) : PSs X e t' := ⟨fun pins s σ H Q I q => h.run pins s σ H Q I (i _ _ _ q)⟩

section
variable {K : PySem.W.Frag} {E : XK} {m m1 : List Addr} {hb hb1 H H1 : Hp} {Q : VK}
theorem Ev.step {r : Res (D × Store)} (h : Ev K E r m hb H Q) (t : Step m hb H m1 hb1 H1) : Ev K E r m1 hb1 H1 Q := by
  match r, h with
  | .ok (d, μ'), h => exact fun v m' hb' H' s r rd => h v m' hb' H' (t.trans s) r rd
  | .exc c p μ', h => exact fun m' hb' H' s r => h m' hb' H' (t.trans s) r
theorem EvT.step {r : Res (Bool × Store)} {Q : Bool → Hp → Prop} (h : EvT K E r m hb H Q) (t : Step m hb H m1 hb1 H1) : EvT K E r m1 hb1 H1 Q := by
  match r, h with
  | .ok (d, μ'), h => exact fun m' hb' H' s r => h m' hb' H' (t.trans s) r
  | .exc c p μ', h => exact fun m' hb' H' s r => h m' hb' H' (t.trans s) r
theorem EvA.step {r : Res (D × Store)} {Q : List V → Hp → Prop} (h : EvA K E r m hb H Q) (t : Step m hb H m1 hb1 H1) : EvA K E r m1 hb1 H1 Q := by
  match r, h with
  | .ok (d, μ'), h => exact fun v m' hb' H' s r rd => h v m' hb' H' (t.trans s) r rd
  | .exc c p μ', h => exact fun m' hb' H' s r => h m' hb' H' (t.trans s) r
/-- behind a first part -/
structure Mid (K : PySem.W.Frag) (m : List Addr) (hb H : Hp) (r : Res (D × Store)) (v : V) (H1 : Hp) (m1 : List Addr) (hb1 : Hp) (d : D) (μ1 : Store) : Prop where
  e : r = .ok (d, μ1)
  st : Step m hb H m1 hb1 H1
  rel : Rel K m1 hb1 H1 μ1
  rd : Rdv K m1 hb1 v d
theorem Ev.bind {r : Res (D × Store)} {f : D × Store → Res (D × Store)} (h : Ev K E (r.bind f) m hb H Q) :
    Ev K E r m hb H fun v H1 => ∃ m1 hb1 d μ1, Mid K m hb H r v H1 m1 hb1 d μ1 ∧ Ev K E (f (d, μ1)) m1 hb1 H1 Q := by
  match r, h with
  | .ok (d, μ'), h => exact fun v m' hb' H' s r rd => ⟨m', hb', d, μ', ⟨rfl, s, r, rd⟩, Ev.step h s⟩
  | .exc c p μ', h => exact fun m' hb' H' s r => h m' hb' H' s r
theorem EvT.bind {r : Res (D × Store)} {f : D × Store → Res (Bool × Store)} {Q : Bool → Hp → Prop} (h : EvT K E (r.bind f) m hb H Q) :
    Ev K E r m hb H fun v H1 => ∃ m1 hb1 d μ1, Mid K m hb H r v H1 m1 hb1 d μ1 ∧ EvT K E (f (d, μ1)) m1 hb1 H1 Q := by
  match r, h with
  | .ok (d, μ'), h => exact fun v m' hb' H' s r rd => ⟨m', hb', d, μ', ⟨rfl, s, r, rd⟩, EvT.step h s⟩
  | .exc c p μ', h => exact fun m' hb' H' s r => h m' hb' H' s r
theorem EvA.bind {r : Res (D × Store)} {f : D × Store → Res (D × Store)} {Q : List V → Hp → Prop} (h : EvA K E (r.bind f) m hb H Q) :
    Ev K E r m hb H fun v H1 => ∃ m1 hb1 d μ1, Mid K m hb H r v H1 m1 hb1 d μ1 ∧ EvA K E (f (d, μ1)) m1 hb1 H1 Q := by
  match r, h with
  | .ok (d, μ'), h => exact fun v m' hb' H' s r rd => ⟨m', hb', d, μ', ⟨rfl, s, r, rd⟩, EvA.step h s⟩
  | .exc c p μ', h => exact fun m' hb' H' s r => h m' hb' H' s r
/-- a pack first -/
structure MidA (K : PySem.W.Frag) (m : List Addr) (hb H : Hp) (r : Res (D × Store)) (vs : List V) (H1 : Hp) (m1 : List Addr) (hb1 : Hp) (d : D) (μ1 : Store) : Prop where
  e : r = .ok (d, μ1)
  st : Step m hb H m1 hb1 H1
  rel : Rel K m1 hb1 H1 μ1
  rd : RdAll K m1 hb1 vs (packOf d)
theorem Ev.bindA {r : Res (D × Store)} {f : D × Store → Res (D × Store)} (h : Ev K E (r.bind f) m hb H Q) :
    EvA K E r m hb H fun vs H1 => ∃ m1 hb1 d μ1, MidA K m hb H r vs H1 m1 hb1 d μ1 ∧ Ev K E (f (d, μ1)) m1 hb1 H1 Q := by
  match r, h with
  | .ok (d, μ'), h => exact fun v m' hb' H' s r rd => ⟨m', hb', d, μ', ⟨rfl, s, r, rd⟩, Ev.step h s⟩
  | .exc c p μ', h => exact fun m' hb' H' s r => h m' hb' H' s r
theorem EvA.bindA {r : Res (D × Store)} {f : D × Store → Res (D × Store)} {Q : List V → Hp → Prop} (h : EvA K E (r.bind f) m hb H Q) :
    EvA K E r m hb H fun vs H1 => ∃ m1 hb1 d μ1, MidA K m hb H r vs H1 m1 hb1 d μ1 ∧ EvA K E (f (d, μ1)) m1 hb1 H1 Q := by
  match r, h with
  | .ok (d, μ'), h => exact fun v m' hb' H' s r rd => ⟨m', hb', d, μ', ⟨rfl, s, r, rd⟩, EvA.step h s⟩
  | .exc c p μ', h => exact fun m' hb' H' s r => h m' hb' H' s r
theorem Ev.ok {d : D} {μ : Store} {v : V} (h : Ev K E (.ok (d, μ)) m hb H Q) (r : Rel K m hb H μ) (rd : Rdv K m hb v d) : Q v H := h v m hb H Step.refl r rd
end
end SC

set_option Elab.async false
set_option linter.all false
set_option maxRecDepth 100000
set_option maxHeartbeats 1000000
/-! SC2: the rules of the expressions, part 1. -/
namespace SC
open PySem PySem.Spec PyProof.Rows L2

section
variable {K : PySem.W.Frag} {E : XK} {m m1 : List Addr} {hb hb1 H H1 : Hp} {Q : VK} {μ : Store}
theorem Ev.imp {r : Res (D × Store)} {Q' : VK} (h : Ev K E r m hb H Q) (i : ∀ v H', Q v H' → Q' v H') : Ev K E r m hb H Q' := by
  match r, h with
  | .ok (d, μ'), h => exact fun v m' hb' H' s r rd => i _ _ (h v m' hb' H' s r rd)
  | .exc c p μ', h => exact h
theorem EvA.imp {r : Res (D × Store)} {Q Q' : List V → Hp → Prop} (h : EvA K E r m hb H Q) (i : ∀ v H', Q v H' → Q' v H') : EvA K E r m hb H Q' := by
  match r, h with
  | .ok (d, μ'), h => exact fun v m' hb' H' s r rd => i _ _ (h v m' hb' H' s r rd)
  | .exc c p μ', h => exact h
theorem EvT.imp {r : Res (Bool × Store)} {Q Q' : Bool → Hp → Prop} (h : EvT K E r m hb H Q) (i : ∀ v H', Q v H' → Q' v H') : EvT K E r m hb H Q' := by
  match r, h with
  | .ok (d, μ'), h => exact fun m' hb' H' s r => i _ _ (h m' hb' H' s r)
  | .exc c p μ', h => exact h
/-- what the end asks -/
def Fin (K : PySem.W.Frag) (m : List Addr) (hb H : Hp) (μ : Store) (d : D) (Q : VK) : Prop := ∀ v m' hb' H', Step m hb H m' hb' H' → Rel K m' hb' H' μ → Rdv K m' hb' v d → Q v H'
theorem Ev.rD {o : Option D} (h : Ev K E (SC.rD o μ) m hb H Q) : ∃ d, o = some d ∧ Fin K m hb H μ d Q := by
  cases o with
  | none => exact h.elim
  | some d => exact ⟨d, rfl, h⟩
theorem Ev.rB {o : Option Bool} (h : Ev K E (SC.rB o μ) m hb H Q) : ∃ b, o = some b ∧ Fin K m hb H μ (.bl b) Q := by
  cases o with
  | none => exact h.elim
  | some d => exact ⟨d, rfl, h⟩
theorem Fin.here {d : D} {v : V} (h : Fin K m hb H μ d Q) (r : Rel K m hb H μ) (rd : Rdv K m hb v d) : Q v H := h v m hb H Step.refl r rd
/-- a new tuple -/
theorem Fin.tup {xs : List D} {vs : List V} (h : Fin K m hb H μ (.tup xs) Q) (r : Rel K m hb H μ) (rd : RdAll K m hb vs xs) : ∀ p, H p = none → Q (.ref p) (upd H p (.tup vs)) := fun p hp => by
  obtain ⟨r', s⟩ := r.laid (o := .tup vs) hp
  exact h _ _ _ _ s r' (.tup (.inl (.inl upd_same)) (rd.mono s.pre s.sub))
theorem Fin.lst {xs : List D} {vs : List V} (h : Fin K m hb H μ (.lst xs) Q) (r : Rel K m hb H μ) (rd : RdAll K m hb vs xs) : ∀ p, H p = none → Q (.ref p) (upd H p (.lst vs)) := fun p hp => by
  obtain ⟨r', s⟩ := r.laid (o := .lst vs) hp
  exact h _ _ _ _ s r' (.lst (.inl upd_same) (rd.mono s.pre s.sub))
theorem sqT_up {a : Addr} {vs : List V} (r : Rel K m hb H μ) (h : SqT K hb a vs) : SqT K H a vs := sqT_sub r.sub h
theorem rd_up {a : Addr} {u : HO} (r : Rel K m hb H μ) (h : L2.Rd hb a u) : L2.Rd H a u := rd_sub r.sub h
theorem lst_at {d : D} {xs : List D} {v : V} (r : Rel K m hb H μ) (e : lstOf μ d = some xs) (h : Rdv K m hb v d) : ∃ a vs, v = .ref a ∧ L2.Rd H a (.lst vs) ∧ RdAll K m hb vs xs := by
  cases h with
  | lst h t => cases e; exact ⟨_, _, rfl, rd_up r h, t⟩
  | ref h =>
    have e : μ[_]? = some xs := e
    obtain ⟨a, vs, h1, h2, h3⟩ := r.at e
    rw [h] at h1; cases h1
    exact ⟨_, vs, rfl, .inl h2, h3⟩
  | _ => cases e
theorem seq_at {d : D} {xs : List D} {v : V} (r : Rel K m hb H μ) (e : seqOf μ d = some xs) (h : Rdv K m hb v d) : ∃ a vs, v = .ref a ∧ (SqL K H a vs ∨ SqT K H a vs) ∧ RdAll K m hb vs xs := by
  cases h with
  | tup h t => cases e; exact ⟨_, _, rfl, .inr (sqT_up r h), t⟩
  | lst h t => cases e; exact ⟨_, _, rfl, .inl (.inl (rd_up r h)), t⟩
  | ref h =>
    have e : μ[_]? = some xs := e
    obtain ⟨a, vs, h1, h2, h3⟩ := r.at e
    rw [h] at h1; cases h1
    exact ⟨_, vs, rfl, .inl (.inl (.inl h2)), h3⟩
  | _ => cases e
end

section
variable {X : Cx}
theorem Inv.lstR {pins : List (Addr × Obj)} {σ : L2.St} {H : Hp} {s : Shared} {l : Addr} {xs : List V} (I : Inv X pins σ H s) (hH : L2.Rd H l (.lst xs)) : xs.length ≤ sizeLine ∧ ∃ (its : List Value) (n : Nat), Vals xs its ∧ xs.length = its.length ∧ s.heap.get? l = some { cls := .type "list", data := .seq its.toArray n } := by
  obtain ⟨z, its, n, r, e⟩ := hH.ok I.hok
  exact ⟨z, its, n, r, r.length, e⟩
theorem op_catR : OpR X (binaryOp .Add) (fun x y H Q => ∃ l b xs zs, x = .ref l ∧ y = .ref b ∧ L2.Rd H l (.lst xs) ∧ L2.Rd H b (.lst zs) ∧ xs.length + zs.length ≤ sizeLine ∧ ∀ p, H p = none → Q (.ref p) (upd H p (.lst (xs ++ zs)))) := by
  intro pins s σ H x y v u Q I rx ry h
  obtain ⟨l, b, xs, zs, rfl, rfl, hH, hB, hz, q⟩ := h
  cases rx
  cases ry
  obtain ⟨z, its, n, r, hl, e⟩ := Inv.lstR I hH
  obtain ⟨z2, its2, n2, r2, hl2, e2⟩ := Inv.lstR I hB
  refine PySem.P.add_list e e2 ?_ (by rw [List.size_toArray, List.size_toArray]; omega)
  have ea : its.toArray ++ its2.toArray = (its ++ its2).toArray := by simp
  rw [ea]
  exact ⟨.ref _, _, I.lnew (t' := s.toks) (r.append r2) (by rw [List.length_append]; omega), rfl, q _ I.fresh⟩

/-- an operator by the meaning f -/
def rS (K : PySem.W.Frag) (f : Store → D → D → Option D) : R2 := fun x y H Q => ∃ m hb μ a b d, Rel K m hb H μ ∧ Rdv K m hb x a ∧ Rdv K m hb y b ∧ f μ a b = some d ∧ Fin K m hb H μ d Q
theorem op_addS : OpR X (binaryOp .Add) (rS X.K pAdd) := by
  intro pins s σ H x y v u Q I rx ry ⟨m, hb, μ, a, b, d, r, ra, rb, e, q⟩
  have lists : (lstOf μ a).isSome = true → (lstOf μ b).isSome = true → (match lstOf μ a, lstOf μ b with
    | some xs, some ys => if xs.length + ys.length ≤ sizeLine then some (D.lst (xs ++ ys)) else none
    | _, _ => none) = some d → wpAny (model X.prog X.w) X.A (binaryOp .Add v u) (EP X pins σ Q) X.xe s := by
    intro ha hb' e
    obtain ⟨xs, e1⟩ := Option.isSome_iff_exists.mp ha
    obtain ⟨ys, e2⟩ := Option.isSome_iff_exists.mp hb'
    rw [e1, e2] at e
    simp only at e
    split at e
    · rename_i hz
      cases e
      obtain ⟨p1, v1, h1, h2, h3⟩ := lst_at r e1 ra
      obtain ⟨p2, v2, h4, h5, h6⟩ := lst_at r e2 rb
      exact op_catR pins s σ H x y v u Q I rx ry ⟨p1, p2, v1, v2, h1, h4, h2, h5, by rw [h3.length, h6.length]; exact hz, q.lst r (h3.append h6)⟩
    · cases e
  cases a with
  | int i =>
    cases b with
    | int j => cases e; cases ra; cases rb; exact op_add pins s σ H _ _ v u Q I rx ry ⟨i, j, rfl, rfl, q.here r (.int _)⟩
    | _ => cases e
  | str i =>
    cases b with
    | str j =>
      simp only [pAdd] at e
      split at e
      · cases e; cases ra; cases rb; exact op_add_str pins s σ H _ _ v u Q I rx ry ⟨i, j, rfl, rfl, ‹_›, q.here r (.str _)⟩
      · cases e
    | _ => cases e
  | tup xs =>
    cases b with
    | tup ys =>
      simp only [pAdd] at e
      split at e
      · rename_i hz
        cases e
        cases ra with | tup ha ta =>
        cases rb with | tup hb' tb =>
        refine op_catA pins s σ H _ _ v u Q I rx ry ⟨_, _, _, _, rfl, rfl, sqT_up r ha, sqT_up r hb', by rw [ta.length, tb.length]; exact hz, fun z => ?_, fun z1 z2 => ?_, fun _ _ => q.tup r (ta.append tb)⟩
        · subst z; cases ta; exact q.here r (.tup hb' tb)
        · subst z2; cases tb; rw [List.append_nil] at q; exact q.here r (.tup ha ta)
      · cases e
    | _ => cases e
  | lst xs =>
    cases b with
    | lst ys => exact lists rfl rfl e
    | ref k => cases h : μ[k]? with
      | none => simp [pAdd, lstOf, h] at e
      | some ys => exact lists rfl (by simp [lstOf, h]) e
    | _ => cases e
  | ref k =>
    cases h : μ[k]? with
    | none => cases b <;> simp [pAdd, lstOf, h] at e
    | some xs =>
      cases b with
      | lst ys => exact lists (by simp [lstOf, h]) rfl e
      | ref l => cases h' : μ[l]? with
        | none => simp [pAdd, lstOf, h, h'] at e
        | some ys => exact lists (by simp [lstOf, h]) (by simp [lstOf, h']) e
      | _ => simp [pAdd, lstOf, h] at e
  | non => cases b <;> cases e
  | bl _ => cases b <;> cases e
  | dct _ _ => cases b <;> cases e
  | scr _ => cases b <;> cases e
theorem int_case {f : Int → Int → Option D} {x y : D} {d : D} (e : (match x, y with | .int i, .int j => f i j | _, _ => none) = some d) : ∃ i j, x = .int i ∧ y = .int j ∧ f i j = some d := by
  cases x with
  | int i =>
    cases y with
    | int j => exact ⟨i, j, rfl, rfl, e⟩
    | _ => cases e
  | _ => cases e
theorem op_subS : OpR X (binaryOp .Sub) (rS X.K fun μ a b => pBin .sub μ a b) := by
  intro pins s σ H x y v u Q I rx ry ⟨m, hb, μ, a, b, d, r, ra, rb, e, q⟩
  obtain ⟨i, j, rfl, rfl, e2⟩ := int_case e
  clear e
  cases e2; cases ra; cases rb
  exact op_sub pins s σ H _ _ v u Q I rx ry ⟨i, j, rfl, rfl, q.here r (.int _)⟩
theorem op_fdivS : OpR X (binaryOp .FloorDiv) (rS X.K fun μ a b => pBin .fdiv μ a b) := by
  intro pins s σ H x y v u Q I rx ry ⟨m, hb, μ, a, b, d, r, ra, rb, e, q⟩
  obtain ⟨i, j, rfl, rfl, e2⟩ := int_case e
  clear e
  split at e2
  · rename_i hc
    cases e2; cases ra; cases rb
    exact op_fdiv pins s σ H _ _ v u Q I rx ry ⟨i, j, rfl, rfl, hc, q.here r (.int _)⟩
  · cases e2
theorem op_modS : OpR X (binaryOp .Mod) (rS X.K fun μ a b => pBin .mod μ a b) := by
  intro pins s σ H x y v u Q I rx ry ⟨m, hb, μ, a, b, d, r, ra, rb, e, q⟩
  obtain ⟨i, j, rfl, rfl, e2⟩ := int_case e
  clear e
  split at e2
  · rename_i hc
    cases e2; cases ra; cases rb
    exact op_mod pins s σ H _ _ v u Q I rx ry ⟨i, j, rfl, rfl, hc, q.here r (.int _)⟩
  · cases e2
theorem op_powS : OpR X (binaryOp .Pow) (rS X.K fun μ a b => pBin .pow μ a b) := by
  intro pins s σ H x y v u Q I rx ry ⟨m, hb, μ, a, b, d, r, ra, rb, e, q⟩
  obtain ⟨i, j, rfl, rfl, e2⟩ := int_case e
  clear e
  split at e2
  · rename_i hc
    cases e2; cases ra; cases rb
    exact op_pow pins s σ H _ _ v u Q I rx ry ⟨i, j, rfl, rfl, hc, q.here r (.int _)⟩
  · cases e2
def cmpE (o : COp) : CmpOp := match o with
  | .eq => .Eq | .ne => .NotEq | .lt => .Lt | .le => .LtE | .gt => .Gt | .ge => .GtE | .isN => .Is | .isntN => .IsNot | .isin => .In | .notin => .NotIn
def binE (o : BOp) : Operator := match o with
  | .add => .Add | .sub => .Sub | .mul => .Mult | .fdiv => .FloorDiv | .mod => .Mod | .pow => .Pow
/-- a comparison by the meaning f -/
def rSB (K : PySem.W.Frag) (f : Store → D → D → Option Bool) : R2 := fun x y H Q => ∃ m hb μ a b d, Rel K m hb H μ ∧ Rdv K m hb x a ∧ Rdv K m hb y b ∧ f μ a b = some d ∧ Q (.bl d) H
mutual
theorem Dp_of {m : List Addr} {hb H : Hp} {μ : Store} {K : PySem.W.Frag} (r : Rel K m hb H μ) : ∀ {v : V} {d : D}, Rdv K m hb v d → (py μ d).canLay0 = true → Dp K H v (py μ d)
  | _, _, .non, _ => .non
  | _, _, .bl b, _ => .bl b
  | _, _, .int i, _ => .int i
  | _, _, .str x, _ => .str x
  | _, .tup xs, .tup h t, c => .tup (sqT_up r h) (DpAll_of r t (by simpa [py, PyData.canLay0] using c))
  | _, .lst xs, .lst h t, c => .lst (.inl (rd_up r h)) (DpAll_of r t (by simpa [py, PyData.canLay0] using c))
  | _, .ref k, .ref h, c => by
    cases e : μ[k]? with
    | none => simp [py, e, PyData.canLay0] at c
    | some xs =>
      obtain ⟨a, vs, h1, h2, h3⟩ := r.at e
      rw [h] at h1; cases h1
      simp only [py, e, PyData.canLay0] at c ⊢
      refine .lst (.inl (.inl h2)) ?_
      have key : ∀ {vs : List V} {xs : List D}, RdAll K m hb vs xs → PyData.canLayAll0 (xs.map fpy) = true → DpAll K H vs (xs.map fpy) := by
        intro vs
        induction vs with
        | nil => intro xs h _; cases h; exact .nil
        | cons v vs ih =>
          intro xs h c
          cases h with
          | cons h1 h2 =>
            simp only [List.map_cons, PyData.canLayAll0, Bool.and_eq_true] at c
            refine .cons ?_ (ih h2 c.2)
            cases h1 with
            | non => exact .non
            | bl b => exact .bl b
            | int i => exact .int i
            | str x => exact .str x
            | _ => simp [fpy, PyData.canLay0] at c
      exact key h3 c
  | _, _, .scr _ _, c => by simp [py, PyData.canLay0] at c
theorem DpAll_of {m : List Addr} {hb H : Hp} {μ : Store} {K : PySem.W.Frag} (r : Rel K m hb H μ) : ∀ {vs : List V} {ds : List D}, RdAll K m hb vs ds → PyData.canLayAll0 (pyAll μ ds) = true → DpAll K H vs (pyAll μ ds)
  | _, _, .nil, _ => .nil
  | _, _, .cons h t, c => by
    simp only [pyAll, PyData.canLayAll0, Bool.and_eq_true] at c
    exact .cons (Dp_of r h c.1) (DpAll_of r t c.2)
end
theorem flatV_of {m : List Addr} {hb : Hp} {K : PySem.W.Frag} {v : V} {d : D} (h : Rdv K m hb v d) (f : flat d = true) : flatV v = true := by
  cases h <;> first | rfl | cases f
theorem eqV_of {m : List Addr} {hb : Hp} {K : PySem.W.Frag} {v w : V} {d e : D} (h : Rdv K m hb v d) (h' : Rdv K m hb w e) (f : flat d = true) (f' : flat e = true) : eqV v w = feq d e := by
  cases h <;> cases h' <;> first | rfl | cases f | cases f'
/-- == and != of flat values of any kinds -/
theorem op_eqF (hu : X.A.units + 64 < cLine) : OpR X (compareOp .Eq) (fun x y H Q => flatV x = true ∧ flatV y = true ∧ Q (.bl (eqV x y)) H) := by
  intro pins s σ H x y v u Q I rx ry ⟨fx, fy, q⟩
  have go : ∀ (d e : PyData), Dp X.K H x d → Dp X.K H y e → (∀ z, d ≠ .str z) → (∀ z, e ≠ .str z) → SeqAt.shaped d = true → SeqAt.shaped e = true → PyData.eqv d e = eqV x y → wpAny (model X.prog X.w) X.A (compareOp .Eq v u) (EP X pins σ Q) X.xe s := fun d e h1 h2 _ _ s1 s2 he =>
    op_eqD hu pins s σ H x y v u Q I rx ry ⟨d, e, h1, h2, s1, s2, by rw [he]; exact q⟩
  have sc : scal x y = true → decide (x = y) = eqV x y → wpAny (model X.prog X.w) X.A (compareOp .Eq v u) (EP X pins σ Q) X.xe s := fun h1 h2 =>
    op_eq pins s σ H x y v u Q I rx ry ⟨h1, by rw [h2]; exact q⟩
  cases x with
  | non => cases y with
    | non => exact sc rfl (by simp [eqV])
    | bl b => exact sc rfl (by simp [eqV])
    | int b => exact sc rfl (by simp [eqV])
    | str b => exact sc rfl (by simp [eqV])
    | _ => cases fy
  | bl a => cases y with
    | non => exact sc rfl (by simp [eqV])
    | bl b => exact sc rfl (by rw [dec_bl]; rfl)
    | int b => exact go (.bool a) (.int b) (.bl a) (.int b) (fun z => by simp) (fun z => by simp) rfl rfl (by simp [PyData.eqv, eqV])
    | str b => exact sc rfl (by simp [eqV])
    | _ => cases fy
  | int a => cases y with
    | non => exact sc rfl (by simp [eqV])
    | bl b => exact go (.int a) (.bool b) (.int a) (.bl b) (fun z => by simp) (fun z => by simp) rfl rfl (by simp [PyData.eqv, eqV])
    | int b => exact sc rfl (by rw [dec_int]; rfl)
    | str b => exact sc rfl (by simp [eqV])
    | _ => cases fy
  | str a => cases y with
    | non => exact sc rfl (by simp [eqV])
    | bl b => exact sc rfl (by simp [eqV])
    | int b => exact sc rfl (by simp [eqV])
    | str b => exact sc rfl (by rw [dec_str]; rfl)
    | _ => cases fy
  | _ => cases fx
theorem op_neF (hu : X.A.units + 64 < cLine) : OpR X (compareOp .NotEq) (fun x y H Q => flatV x = true ∧ flatV y = true ∧ Q (.bl (!eqV x y)) H) := by
  intro pins s σ H x y v u Q I rx ry ⟨fx, fy, q⟩
  have go : ∀ (d e : PyData), Dp X.K H x d → Dp X.K H y e → SeqAt.shaped d = true → SeqAt.shaped e = true → PyData.eqv d e = eqV x y → wpAny (model X.prog X.w) X.A (compareOp .NotEq v u) (EP X pins σ Q) X.xe s := fun d e h1 h2 s1 s2 he =>
    op_neD hu pins s σ H x y v u Q I rx ry ⟨d, e, h1, h2, s1, s2, by rw [he]; exact q⟩
  have sc : scal x y = true → decide (x = y) = eqV x y → wpAny (model X.prog X.w) X.A (compareOp .NotEq v u) (EP X pins σ Q) X.xe s := fun h1 h2 =>
    op_ne pins s σ H x y v u Q I rx ry ⟨h1, by rw [h2]; exact q⟩
  cases x with
  | non => cases y with
    | non => exact sc rfl (by simp [eqV])
    | bl b => exact sc rfl (by simp [eqV])
    | int b => exact sc rfl (by simp [eqV])
    | str b => exact sc rfl (by simp [eqV])
    | _ => cases fy
  | bl a => cases y with
    | non => exact sc rfl (by simp [eqV])
    | bl b => exact sc rfl (by rw [dec_bl]; rfl)
    | int b => exact go (.bool a) (.int b) (.bl a) (.int b) rfl rfl (by simp [PyData.eqv, eqV])
    | str b => exact sc rfl (by simp [eqV])
    | _ => cases fy
  | int a => cases y with
    | non => exact sc rfl (by simp [eqV])
    | bl b => exact go (.int a) (.bool b) (.int a) (.bl b) rfl rfl (by simp [PyData.eqv, eqV])
    | int b => exact sc rfl (by rw [dec_int]; rfl)
    | str b => exact sc rfl (by simp [eqV])
    | _ => cases fy
  | str a => cases y with
    | non => exact sc rfl (by simp [eqV])
    | bl b => exact sc rfl (by simp [eqV])
    | int b => exact sc rfl (by simp [eqV])
    | str b => exact sc rfl (by rw [dec_str]; rfl)
    | _ => cases fy
  | _ => cases fx
theorem op_eqS (hu : X.A.units + 64 < cLine) : OpR X (compareOp .Eq) (rSB X.K pEq) := by
  intro pins s σ H x y v u Q I rx ry ⟨m, hb, μ, a, b, d, r, ra, rb, e, q⟩
  unfold pEq at e
  split at e
  · rename_i h
    cases e
    obtain ⟨h1, h2⟩ := Bool.and_eq_true_iff.mp h
    exact op_eqF hu pins s σ H x y v u Q I rx ry ⟨flatV_of ra h1, flatV_of rb h2, by rw [eqV_of ra rb h1 h2]; exact q⟩
  · split at e
    · rename_i h
      cases e
      obtain ⟨h1, h2⟩ := Bool.and_eq_true_iff.mp h
      exact op_eqD hu pins s σ H x y v u Q I rx ry ⟨_, _, Dp_of r ra (SeqAt.canLay_of_shaped h1), Dp_of r rb (SeqAt.canLay_of_shaped h2), h1, h2, q⟩
    · cases e
theorem op_neS (hu : X.A.units + 64 < cLine) : OpR X (compareOp .NotEq) (rSB X.K fun μ a b => (pEq μ a b).map not) := by
  intro pins s σ H x y v u Q I rx ry ⟨m, hb, μ, a, b, d, r, ra, rb, e, q⟩
  obtain ⟨d', e2, rfl⟩ := Option.map_eq_some_iff.mp e
  clear e
  unfold pEq at e2
  split at e2
  · rename_i h
    cases e2
    obtain ⟨h1, h2⟩ := Bool.and_eq_true_iff.mp h
    exact op_neF hu pins s σ H x y v u Q I rx ry ⟨flatV_of ra h1, flatV_of rb h2, by rw [eqV_of ra rb h1 h2]; exact q⟩
  · split at e2
    · rename_i h
      cases e2
      obtain ⟨h1, h2⟩ := Bool.and_eq_true_iff.mp h
      exact op_neD hu pins s σ H x y v u Q I rx ry ⟨_, _, Dp_of r ra (SeqAt.canLay_of_shaped h1), Dp_of r rb (SeqAt.canLay_of_shaped h2), h1, h2, q⟩
    · cases e2
theorem int_caseB {f : Int → Int → Option Bool} {x y : D} {d : Bool} (e : (match x, y with | .int i, .int j => f i j | _, _ => none) = some d) : ∃ i j, x = .int i ∧ y = .int j ∧ f i j = some d := by
  cases x with
  | int i =>
    cases y with
    | int j => exact ⟨i, j, rfl, rfl, e⟩
    | _ => cases e
  | _ => cases e
theorem allflat {m : List Addr} {hb : Hp} {K : PySem.W.Frag} : ∀ {vs : List V} {xs : List D}, RdAll K m hb vs xs → xs.all flat = true → vs.all flatV = true
  | _, _, .nil, _ => rfl
  | _, _, .cons h t, f => by
    simp only [List.all_cons, Bool.and_eq_true] at f ⊢
    exact ⟨flatV_of h f.1, allflat t f.2⟩
theorem anyeq {m : List Addr} {hb : Hp} {K : PySem.W.Frag} {v : V} {d : D} (h0 : Rdv K m hb v d) (f0 : flat d = true) : ∀ {vs : List V} {xs : List D}, RdAll K m hb vs xs → xs.all flat = true → inV v vs = xs.any fun y => feq y d
  | _, _, .nil, _ => rfl
  | _, _, .cons h t, f => by
    simp only [List.all_cons, Bool.and_eq_true] at f
    have ih := anyeq h0 f0 t f.2
    unfold inV at ih ⊢
    simp only [List.any_cons, ih, eqV_of h h0 f.1 f0]
theorem in_cases {K : PySem.W.Frag} {m : List Addr} {hb H : Hp} {μ : Store} {x y : V} {a b : D} {d : Bool} (r : Rel K m hb H μ) (ra : Rdv K m hb x a) (rb : Rdv K m hb y b) (e : pIn μ a b = some d) :
    (∃ p xs, y = .ref p ∧ (SqL K H p xs ∨ SqT K H p xs) ∧ flatV x = true ∧ xs.all flatV = true ∧ inV x xs = d) ∨
    (∃ z ds, Dp K H x z ∧ Dp K H y (.list ds) ∧ SeqAt.shaped z = true ∧ SeqAt.shaped (.list ds) = true ∧ (ds.any fun t => PyData.eqv t z) = d) := by
  unfold pIn at e
  split at e
  · rename_i ys hy
    split at e
    · rename_i h
      obtain ⟨h1, h2⟩ := Bool.and_eq_true_iff.mp h
      cases e
      obtain ⟨p, vs, h3, h4, h5⟩ := seq_at r hy rb
      exact .inl ⟨p, vs, h3, h4, flatV_of ra h1, allflat h5 h2, anyeq ra h1 h5 h2⟩
    · split at e
      · split at e
        · rename_i h
          obtain ⟨h1, h2⟩ := Bool.and_eq_true_iff.mp h
          split at e
          · rename_i ds hd
            cases e
            rw [hd] at h2
            have h3 := Dp_of r rb (by rw [hd]; exact SeqAt.canLay_of_shaped h2)
            rw [hd] at h3
            exact .inr ⟨_, ds, Dp_of r ra (SeqAt.canLay_of_shaped h1), h3, h1, h2, rfl⟩
          · cases e
        · cases e
      · cases e
  · cases e
theorem op_inS (hu : X.A.units + 65 < cLine) : OpR X (compareOp .In) (rSB X.K pIn) := by
  intro pins s σ H x y v u Q I rx ry ⟨m, hb, μ, a, b, d, r, ra, rb, e, q⟩
  rcases in_cases r ra rb e with ⟨p, xs, h1, h2, h3, h4, h5⟩ | ⟨z, ds, h1, h2, h3, h4, h5⟩
  · exact op_in_seq pins s σ H x y v u Q I rx ry ⟨p, xs, h1, h2, h3, h4, by rw [if_neg (by decide), h5]; exact q⟩
  · exact op_inD hu pins s σ H x y v u Q I rx ry ⟨z, ds, h1, h2, h3, h4, by rw [h5]; exact q⟩
theorem op_notinS (hu : X.A.units + 65 < cLine) : OpR X (compareOp .NotIn) (rSB X.K fun μ a b => (pIn μ a b).map not) := by
  intro pins s σ H x y v u Q I rx ry ⟨m, hb, μ, a, b, d, r, ra, rb, e, q⟩
  obtain ⟨d', e2, rfl⟩ := Option.map_eq_some_iff.mp e
  rcases in_cases r ra rb e2 with ⟨p, xs, h1, h2, h3, h4, h5⟩ | ⟨z, ds, h1, h2, h3, h4, h5⟩
  · exact op_notIn_seq pins s σ H x y v u Q I rx ry ⟨p, xs, h1, h2, h3, h4, by rw [if_pos rfl, h5]; exact q⟩
  · exact op_notInD hu pins s σ H x y v u Q I rx ry ⟨z, ds, h1, h2, h3, h4, by rw [h5]; exact q⟩
theorem cmpS (hu : X.A.units + 65 < cLine) (op : COp) (h1 : op ≠ .isN) (h2 : op ≠ .isntN) : OpR X (compareOp (cmpE op)) (rSB X.K (pCmp op)) := by
  cases op with
  | eq => exact op_eqS (by omega)
  | ne => exact op_neS (by omega)
  | isin => exact op_inS hu
  | notin => exact op_notinS hu
  | isN => exact absurd rfl h1
  | isntN => exact absurd rfl h2
  | lt =>
    intro pins s σ H x y v u Q I rx ry ⟨m, hb, μ, a, b, d, r, ra, rb, e, q⟩
    cases a with
    | int i => cases b with
      | int j => cases e; cases ra; cases rb; exact op_lt pins s σ H _ _ v u Q I rx ry ⟨i, j, rfl, rfl, q⟩
      | _ => cases e
    | str i => cases b with
      | str j => cases e; cases ra; cases rb; exact op_lt_str pins s σ H _ _ v u Q I rx ry ⟨i, j, rfl, rfl, q⟩
      | _ => cases e
    | _ => cases e
  | le =>
    intro pins s σ H x y v u Q I rx ry ⟨m, hb, μ, a, b, d, r, ra, rb, e, q⟩
    obtain ⟨i, j, rfl, rfl, e2⟩ := int_caseB e
    clear e
    cases e2; cases ra; cases rb; exact op_le pins s σ H _ _ v u Q I rx ry ⟨i, j, rfl, rfl, q⟩
  | gt =>
    intro pins s σ H x y v u Q I rx ry ⟨m, hb, μ, a, b, d, r, ra, rb, e, q⟩
    obtain ⟨i, j, rfl, rfl, e2⟩ := int_caseB e
    clear e
    cases e2; cases ra; cases rb; exact op_gt pins s σ H _ _ v u Q I rx ry ⟨i, j, rfl, rfl, q⟩
  | ge =>
    intro pins s σ H x y v u Q I rx ry ⟨m, hb, μ, a, b, d, r, ra, rb, e, q⟩
    obtain ⟨i, j, rfl, rfl, e2⟩ := int_caseB e
    clear e
    cases e2; cases ra; cases rb; exact op_ge pins s σ H _ _ v u Q I rx ry ⟨i, j, rfl, rfl, q⟩
end
end SC

set_option Elab.async false
set_option linter.all false
set_option maxRecDepth 100000
set_option maxHeartbeats 1000000
/-! SC3: the rules of the expressions, part 2: the syntax. -/
namespace SC
open PySem PySem.Spec PyProof.Rows L2
section
variable {X : Cx} {Ex : XK} {Φ : Fn}
variable {a b c : Expr} {A B C : SC.E} {pos : Pos}

theorem se_var {i : Nat} {x : Str} (hN : X.N[i]? = some x := by rfl) (hv : Vis X.env.scope x := by first | exact Or.inl rfl | exact Or.inr (Or.inl rfl) | exact Or.inr (Or.inr rfl)) (hd : (x == ("__debug__" : Str)) = false := by decide)
    (hcd : (x == ("__classdict__" : Str)) = false := by decide) : SE X Ex Φ (.Name x pos) (.var i) := PE.mono (pe_var hN hv hd hcd) fun σ H Q ⟨m, hb, δ, μ, r, s, h⟩ => by
  unfold evalE at h
  split at h
  · rename_i d e
    obtain ⟨v, h1, h2⟩ := s.val i d e
    exact ⟨v, h1, Ev.ok h r h2⟩
  · exact h.elim
theorem se_int {i : Int} {j : Nat} : SE X Ex Φ (.Constant (.int i) j pos) (.k (.int i)) := PE.mono pe_int fun σ H Q ⟨m, hb, δ, μ, r, s, h⟩ => Ev.ok (d := .int i) h r (.int i)
theorem se_bl {i : Bool} {j : Nat} : SE X Ex Φ (.Constant (.bool i) j pos) (.k (.bl i)) := PE.mono pe_bl fun σ H Q ⟨m, hb, δ, μ, r, s, h⟩ => Ev.ok (d := .bl i) h r (.bl i)
theorem se_non {j : Nat} : SE X Ex Φ (.Constant .none j pos) (.k .non) := PE.mono pe_non fun σ H Q ⟨m, hb, δ, μ, r, s, h⟩ => Ev.ok (d := .non) h r .non
theorem se_str {x : Str} {j : Nat} : SE X Ex Φ (.Constant (.str x) j pos) (.k (.str x)) := PE.mono pe_str fun σ H Q ⟨m, hb, δ, μ, r, s, h⟩ => Ev.ok (d := .str x) h r (.str x)
/-- a constant of the module -/
def Cst (K : PySem.W.Frag) (mg : Str → Option Value) (x : Str) (n : String) : Prop := ∃ v u d, mg x = some u ∧ RelV v u ∧ globD n = some d ∧ ∀ m hb, Rdv K m hb v d
theorem se_glob {x : Str} {n : String} (c : Cst X.K X.mg x n) (hg : Gl X x := by rfl) (hd : (x == ("__debug__" : Str)) = false := by decide) : SE X Ex Φ (.Name x pos) (.glob n) := by
  obtain ⟨v, u, d, h1, h2, h3, h4⟩ := c
  refine PE.mono (pe_glob hg h1 h2 hd) fun σ H Q ⟨m, hb, δ, μ, r, s, h⟩ => ?_
  unfold evalE at h
  rw [h3] at h
  exact Ev.ok (d := d) h r (h4 m hb)

theorem sa_nil : SA X Ex Φ [] .nil := PA.mono pa_nil fun σ H Q ⟨m, hb, δ, μ, r, s, h⟩ => h [] m hb H Step.refl r .nil
theorem sa_cons {es : List Expr} (ha : SE X Ex Φ a A) (hr : SA X Ex Φ es B) (hs : starEach (a :: es) X.env = (false, eval a X.env) :: starEach es X.env := by rfl) : SA X Ex Φ (a :: es) (.cons A B) :=
  PA.mono (pa_cons ha hr hs) fun σ H Q ⟨m, hb, δ, μ, r, s, h⟩ => by
    unfold evalE at h
    refine ⟨m, hb, δ, μ, r, s, (EvA.bind h).imp fun x H1 ⟨m1, hb1, d1, μ1, M, h1⟩ => ?_⟩
    refine ⟨m1, hb1, δ, μ1, M.rel, s.step M.st, (EvA.bindA h1).imp fun xs H2 ⟨m2, hb2, d2, μ2, M2, h2⟩ => ?_⟩
    exact h2 _ _ _ _ Step.refl M2.rel (.cons (M.rd.mono M2.st.pre M2.st.sub) M2.rd)
/-- how many items -/
def packN : SC.E → Nat
  | .cons _ r => packN r + 1
  | _ => 0
def packOk : SC.E → Bool
  | .nil => true
  | .cons _ r => packOk r
  | _ => false
theorem res_ok {α β : Type} {r : Res α} {f : α → Res β} {b : β} (h : r.bind f = .ok b) : ∃ a, r = .ok a ∧ f a = .ok b := by
  cases r with
  | ok a => exact ⟨a, rfl, h⟩
  | exc c p μ => cases h
  | bad => cases h
theorem pack_len {δ : Env} : ∀ {A : SC.E} {μ μ' : Store} {d : D}, packOk A = true → evalE Φ A δ μ = .ok (d, μ') → (packOf d).length = packN A
  | .nil, _, _, _, _, h => by
    unfold evalE at h
    cases h; rfl
  | .cons a r, _, _, _, p, h => by
    unfold evalE at h
    obtain ⟨x, h1, h2⟩ := res_ok h
    obtain ⟨y, h3, h4⟩ := res_ok h2
    cases h4
    show (x.1 :: packOf y.1).length = packN r + 1
    rw [List.length_cons, pack_len (A := r) (d := y.1) (μ' := y.2) p h3]
theorem se_tup {es : List Expr} {k : Nat} (h : SA X Ex Φ es A) (hp : packOk A = true := by rfl) (hn : packN A ≤ sizeLine := by decide) : SE X Ex Φ (.Tuple es k pos) (.tup A) :=
  PE.mono (pe_tup h) fun σ H Q ⟨m, hb, δ, μ, r, s, h⟩ => by
    unfold evalE at h
    refine ⟨m, hb, δ, μ, r, s, (Ev.bindA h).imp fun xs H1 ⟨m1, hb1, d1, μ1, M, h1⟩ => ?_⟩
    exact ⟨by rw [M.rd.length, pack_len hp M.e]; exact hn, Fin.tup (xs := packOf d1) h1 M.rel M.rd⟩
theorem se_lst {es : List Expr} (h : SA X Ex Φ es A) (hp : packOk A = true := by rfl) (hn : packN A ≤ sizeLine := by decide) : SE X Ex Φ (.List es pos) (.lst A) :=
  PE.mono (pe_lst h) fun σ H Q ⟨m, hb, δ, μ, r, s, h⟩ => by
    unfold evalE at h
    refine ⟨m, hb, δ, μ, r, s, (Ev.bindA h).imp fun xs H1 ⟨m1, hb1, d1, μ1, M, h1⟩ => ?_⟩
    exact ⟨by rw [M.rd.length, pack_len hp M.e]; exact hn, Fin.lst (xs := packOf d1) h1 M.rel M.rd⟩

/-! ### operators -/
theorem se_op {op : Operator} {f : Store → D → D → Option D} {o : BOp} (ho : OpR X (binaryOp op) (rS X.K f)) (hf : ∀ μ a b, pBin o μ a b = f μ a b) (ha : SE X Ex Φ a A) (hb : SE X Ex Φ b B) : SE X Ex Φ (.BinOp a op b pos) (.bin o A B) :=
  PE.mono (pe_op ho ha hb) fun σ H Q ⟨m, hb, δ, μ, r, s, h⟩ => by
    unfold evalE at h
    refine ⟨m, hb, δ, μ, r, s, (Ev.bind h).imp fun x H1 ⟨m1, hb1, d1, μ1, M, h1⟩ => ?_⟩
    refine ⟨m1, hb1, δ, μ1, M.rel, s.step M.st, (Ev.bind h1).imp fun y H2 ⟨m2, hb2, d2, μ2, M2, h2⟩ => ?_⟩
    obtain ⟨d, e, q⟩ := Ev.rD h2
    exact ⟨m2, hb2, μ2, d1, d2, d, M2.rel, M.rd.mono M2.st.pre M2.st.sub, M2.rd, (hf _ _ _).symm.trans e, q⟩
theorem se_add (ha : SE X Ex Φ a A) (hb : SE X Ex Φ b B) : SE X Ex Φ (.BinOp a .Add b pos) (.bin .add A B) := se_op op_addS (fun _ _ _ => rfl) ha hb
theorem se_sub (ha : SE X Ex Φ a A) (hb : SE X Ex Φ b B) : SE X Ex Φ (.BinOp a .Sub b pos) (.bin .sub A B) := se_op op_subS (fun _ _ _ => rfl) ha hb
theorem se_fdiv (ha : SE X Ex Φ a A) (hb : SE X Ex Φ b B) : SE X Ex Φ (.BinOp a .FloorDiv b pos) (.bin .fdiv A B) := se_op op_fdivS (fun _ _ _ => rfl) ha hb
theorem se_mod (ha : SE X Ex Φ a A) (hb : SE X Ex Φ b B) : SE X Ex Φ (.BinOp a .Mod b pos) (.bin .mod A B) := se_op op_modS (fun _ _ _ => rfl) ha hb
theorem se_pow (ha : SE X Ex Φ a A) (hb : SE X Ex Φ b B) : SE X Ex Φ (.BinOp a .Pow b pos) (.bin .pow A B) := se_op op_powS (fun _ _ _ => rfl) ha hb
theorem se_cmpR {op : CmpOp} {o : COp} (ho : OpR X (compareOp op) (rSB X.K (pCmp o))) (ha : SE X Ex Φ a A) (hb : SE X Ex Φ b B) (hm : behindInMarks op b = false) : SE X Ex Φ (.Compare a [op] [b] pos) (.cmp o A B) :=
  PE.mono (pe_cmpR ho ha hb hm) fun σ H Q ⟨m, hb, δ, μ, r, s, h⟩ => by
    unfold evalE at h
    refine ⟨m, hb, δ, μ, r, s, (Ev.bind h).imp fun x H1 ⟨m1, hb1, d1, μ1, M, h1⟩ => ?_⟩
    refine ⟨m1, hb1, δ, μ1, M.rel, s.step M.st, (Ev.bind h1).imp fun y H2 ⟨m2, hb2, d2, μ2, M2, h2⟩ => ?_⟩
    obtain ⟨d, e, q⟩ := Ev.rB h2
    exact ⟨m2, hb2, μ2, d1, d2, d, M2.rel, M.rd.mono M2.st.pre M2.st.sub, M2.rd, e, q.here M2.rel (.bl d)⟩
theorem se_cmp (o : COp) (hu : X.A.units + 65 < cLine) (ha : SE X Ex Φ a A) (hb : SE X Ex Φ b B) (hm : behindInMarks (cmpE o) b = false := by first | exact nomark _ (by decide) (by decide) | rfl) (h1 : o ≠ .isN := by decide) (h2 : o ≠ .isntN := by decide) :
    SE X Ex Φ (.Compare a [cmpE o] [b] pos) (.cmp o A B) := se_cmpR (cmpS hu o h1 h2) ha hb hm
theorem rdv_non {K : PySem.W.Frag} {m : List Addr} {hb : Hp} {v : V} {d : D} (h : Rdv K m hb v d) : decide (v = .non) = decide (d = .non) := by
  cases h <;> simp
theorem se_isN {k : Nat} {pos' : Pos} (ha : SE X Ex Φ a A) : SE X Ex Φ (.Compare a [.Is] [.Constant .none k pos'] pos) (.cmp .isN A (.k .non)) :=
  PE.mono (pe_cmpR op_isN ha pe_non (nomark _ (by decide) (by decide))) fun σ H Q ⟨m, hb, δ, μ, r, s, h⟩ => by
    unfold evalE at h
    refine ⟨m, hb, δ, μ, r, s, (Ev.bind h).imp fun x H1 ⟨m1, hb1, d1, μ1, M, h1⟩ => ?_⟩
    refine ⟨rfl, ?_⟩
    rw [rdv_non M.rd]
    exact Ev.ok (d := .bl _) h1 M.rel (.bl _)
theorem se_isntN {k : Nat} {pos' : Pos} (ha : SE X Ex Φ a A) : SE X Ex Φ (.Compare a [.IsNot] [.Constant .none k pos'] pos) (.cmp .isntN A (.k .non)) :=
  PE.mono (pe_cmpR op_notN ha pe_non (nomark _ (by decide) (by decide))) fun σ H Q ⟨m, hb, δ, μ, r, s, h⟩ => by
    unfold evalE at h
    refine ⟨m, hb, δ, μ, r, s, (Ev.bind h).imp fun x H1 ⟨m1, hb1, d1, μ1, M, h1⟩ => ?_⟩
    refine ⟨rfl, ?_⟩
    rw [rdv_non M.rd]
    exact Ev.ok (d := .bl _) h1 M.rel (.bl _)
theorem se_neg (ha : SE X Ex Φ a A) : SE X Ex Φ (.UnaryOp .USub a pos) (.neg A) :=
  PE.mono (pe_un un_neg ha) fun σ H Q ⟨m, hb, δ, μ, r, s, h⟩ => by
    unfold evalE at h
    refine ⟨m, hb, δ, μ, r, s, (Ev.bind h).imp fun x H1 ⟨m1, hb1, d1, μ1, M, h1⟩ => ?_⟩
    cases d1 with
    | int i =>
      have M' := M.rd
      cases M'
      exact ⟨i, rfl, Ev.ok (d := .int _) h1 M.rel (.int _)⟩
    | _ => exact h1.elim
/-! ### and, or, not, if -/
theorem bl_of {K : PySem.W.Frag} {m : List Addr} {hb : Hp} {v : V} {b : Bool} (h : Rdv K m hb v (.bl b)) : v = .bl b := by cases h; rfl
theorem se_one {op : BoolOp} (ha : SE X Ex Φ a A) : SE X Ex Φ (.BoolOp op [a] pos) A := pe_one ha
theorem se_and {es : List Expr} (ha : SE X Ex Φ a A) (hb : SE X Ex Φ (.BoolOp .And (b :: es) pos) B) : SE X Ex Φ (.BoolOp .And (a :: b :: es) pos) (.and A B) :=
  PE.mono (pe_and ha hb) fun σ H Q ⟨m, hb, δ, μ, r, s, h⟩ => by
    unfold evalE at h
    refine ⟨m, hb, δ, μ, r, s, (Ev.bind h).imp fun x H1 ⟨m1, hb1, d1, μ1, M, h1⟩ => ?_⟩
    cases d1 with
    | bl c =>
      refine ⟨c, bl_of M.rd, ?_⟩
      cases c with
      | true => exact ⟨m1, hb1, δ, μ1, M.rel, s.step M.st, h1⟩
      | false => exact Ev.ok (d := .bl false) h1 M.rel (.bl _)
    | _ => exact h1.elim
theorem se_or {es : List Expr} (ha : SE X Ex Φ a A) (hb : SE X Ex Φ (.BoolOp .Or (b :: es) pos) B) : SE X Ex Φ (.BoolOp .Or (a :: b :: es) pos) (.or A B) :=
  PE.mono (pe_or ha hb) fun σ H Q ⟨m, hb, δ, μ, r, s, h⟩ => by
    unfold evalE at h
    refine ⟨m, hb, δ, μ, r, s, (Ev.bind h).imp fun x H1 ⟨m1, hb1, d1, μ1, M, h1⟩ => ?_⟩
    cases d1 with
    | bl c =>
      refine ⟨c, bl_of M.rd, ?_⟩
      cases c with
      | false => exact ⟨m1, hb1, δ, μ1, M.rel, s.step M.st, h1⟩
      | true => exact Ev.ok (d := .bl true) h1 M.rel (.bl _)
    | _ => exact h1.elim
theorem se_not (ha : SE X Ex Φ a A) : SE X Ex Φ (.UnaryOp .Not a pos) (.not A) :=
  PE.mono (pe_not ha) fun σ H Q ⟨m, hb, δ, μ, r, s, h⟩ => by
    unfold evalE at h
    refine ⟨m, hb, δ, μ, r, s, (Ev.bind h).imp fun x H1 ⟨m1, hb1, d1, μ1, M, h1⟩ => ?_⟩
    cases d1 with
    | bl c => exact ⟨c, bl_of M.rd, Ev.ok (d := .bl _) h1 M.rel (.bl _)⟩
    | _ => exact h1.elim
section
variable {K : PySem.W.Frag} {E : XK} {m : List Addr} {hb H : Hp}
/-- a test's end -/
theorem EvT.of {r : Res (D × Store)} {Q : Bool → Hp → Prop} (h : EvT K E (evT r) m hb H Q) : Ev K E r m hb H fun v H1 => ∃ b, v = .bl b ∧ Q b H1 := by
  match r, h with
  | .ok (.bl b, μ'), h => exact fun v m' hb' H' s r rd => ⟨b, bl_of rd, h m' hb' H' s r⟩
  | .exc c p μ', h => exact h
theorem EvT.bindT {r : Res (D × Store)} {f : D × Store → Res (D × Store)} {Q : Bool → Hp → Prop} (h : EvT K E (evT (r.bind fun p => (rT p.1).bind fun c => if c then f p else .ok (.bl false, p.2))) m hb H Q) :
    EvT K E (evT r) m hb H fun b H1 => ∃ m1 hb1 μ1, r = .ok (.bl b, μ1) ∧ Step m hb H m1 hb1 H1 ∧ Rel K m1 hb1 H1 μ1 ∧ EvT K E (evT (if b then f (.bl b, μ1) else .ok (.bl false, μ1))) m1 hb1 H1 Q := by
  match r, h with
  | .ok (.bl b, μ'), h => exact fun m' hb' H' s r => ⟨m', hb', μ', rfl, s, r, EvT.step h s⟩
  | .exc c p μ', h => exact h
theorem EvT.bindO {r : Res (D × Store)} {f : D × Store → Res (D × Store)} {Q : Bool → Hp → Prop} (h : EvT K E (evT (r.bind fun p => (rT p.1).bind fun c => if c then .ok (.bl true, p.2) else f p)) m hb H Q) :
    EvT K E (evT r) m hb H fun b H1 => ∃ m1 hb1 μ1, r = .ok (.bl b, μ1) ∧ Step m hb H m1 hb1 H1 ∧ Rel K m1 hb1 H1 μ1 ∧ EvT K E (evT (if b then .ok (.bl true, μ1) else f (.bl b, μ1))) m1 hb1 H1 Q := by
  match r, h with
  | .ok (.bl b, μ'), h => exact fun m' hb' H' s r => ⟨m', hb', μ', rfl, s, r, EvT.step h s⟩
  | .exc c p μ', h => exact h
theorem EvT.bindI {r : Res (D × Store)} {f : Bool → D × Store → Res (D × Store)} {Q : VK} (h : Ev K E (r.bind fun p => (rT p.1).bind fun c => f c p) m hb H Q) :
    EvT K E (evT r) m hb H fun b H1 => ∃ m1 hb1 μ1, r = .ok (.bl b, μ1) ∧ Step m hb H m1 hb1 H1 ∧ Rel K m1 hb1 H1 μ1 ∧ Ev K E (f b (.bl b, μ1)) m1 hb1 H1 Q := by
  match r, h with
  | .ok (.bl b, μ'), h => exact fun m' hb' H' s r => ⟨m', hb', μ', rfl, s, r, Ev.step h s⟩
  | .exc c p μ', h => exact h
end
/-- tests -/
theorem st_val (h : SE X Ex Φ a A) (he : ∀ whole, isTrue a X.env whole = (do let v ← whole; standAt a.pos; holding [v] (truthy v)) := by intro _; rfl) : ST X Ex Φ a A :=
  PT.mono (pt_val h he) fun σ H Q ⟨m, hb, δ, μ, r, s, h⟩ => ⟨m, hb, δ, μ, r, s, EvT.of h⟩
theorem st_cmpR {op : CmpOp} {o : COp} (ho : OpR X (compareOp op) (rSB X.K (pCmp o))) (ha : SE X Ex Φ a A) (hb : SE X Ex Φ b B) (hm : behindInMarks op b = false) : ST X Ex Φ (.Compare a [op] [b] pos) (.cmp o A B) :=
  PT.mono (pt_cmpR ho ha hb hm) fun σ H Q ⟨m, hb, δ, μ, r, s, h⟩ => by
    have h := EvT.of h
    unfold evalE at h
    refine ⟨m, hb, δ, μ, r, s, (Ev.bind h).imp fun x H1 ⟨m1, hb1, d1, μ1, M, h1⟩ => ?_⟩
    refine ⟨m1, hb1, δ, μ1, M.rel, s.step M.st, (Ev.bind h1).imp fun y H2 ⟨m2, hb2, d2, μ2, M2, h2⟩ => ?_⟩
    obtain ⟨d, e, q⟩ := Ev.rB h2
    refine ⟨m2, hb2, μ2, d1, d2, d, M2.rel, M.rd.mono M2.st.pre M2.st.sub, M2.rd, e, ?_⟩
    obtain ⟨b, e1, e2⟩ := q.here M2.rel (.bl d)
    cases e1
    exact ⟨_, rfl, e2⟩
theorem st_cmp (o : COp) (hu : X.A.units + 65 < cLine) (ha : SE X Ex Φ a A) (hb : SE X Ex Φ b B) (hm : behindInMarks (cmpE o) b = false := by first | exact nomark _ (by decide) (by decide) | rfl) (h1 : o ≠ .isN := by decide) (h2 : o ≠ .isntN := by decide) :
    ST X Ex Φ (.Compare a [cmpE o] [b] pos) (.cmp o A B) := st_cmpR (cmpS hu o h1 h2) ha hb hm
theorem st_isN {k : Nat} {pos' : Pos} (ha : SE X Ex Φ a A) : ST X Ex Φ (.Compare a [.Is] [.Constant .none k pos'] pos) (.cmp .isN A (.k .non)) :=
  PT.mono (pt_cmpR op_isN ha pe_non (nomark _ (by decide) (by decide))) fun σ H Q ⟨m, hb, δ, μ, r, s, h⟩ => by
    have h := EvT.of h
    unfold evalE at h
    refine ⟨m, hb, δ, μ, r, s, (Ev.bind h).imp fun x H1 ⟨m1, hb1, d1, μ1, M, h1⟩ => ?_⟩
    refine ⟨rfl, ?_⟩
    rw [rdv_non M.rd]
    exact Ev.ok (d := .bl _) h1 M.rel (.bl _)
theorem st_isntN {k : Nat} {pos' : Pos} (ha : SE X Ex Φ a A) : ST X Ex Φ (.Compare a [.IsNot] [.Constant .none k pos'] pos) (.cmp .isntN A (.k .non)) :=
  PT.mono (pt_cmpR op_notN ha pe_non (nomark _ (by decide) (by decide))) fun σ H Q ⟨m, hb, δ, μ, r, s, h⟩ => by
    have h := EvT.of h
    unfold evalE at h
    refine ⟨m, hb, δ, μ, r, s, (Ev.bind h).imp fun x H1 ⟨m1, hb1, d1, μ1, M, h1⟩ => ?_⟩
    refine ⟨rfl, ?_⟩
    rw [rdv_non M.rd]
    exact Ev.ok (d := .bl _) h1 M.rel (.bl _)
/-- a part of and, or -/
def SW (X : Cx) (E : XK) (Φ : Fn) (e : Expr) (A : SC.E) : Prop := PW X e (tST X.K E Φ A)
theorem PW.mono {X : Cx} {e : Expr} {t t' : TT} (h : PW X e t) (i : ∀ σ H Q, t' σ H Q → t σ H Q) : PW X e t' := ⟨fun wh pins s σ H Q I q => h.run wh pins s σ H Q I (i _ _ _ q)⟩
theorem st_w (h : SW X Ex Φ a A) : ST X Ex Φ a A := h.pt
theorem sw_and1 (h : ST X Ex Φ a A) : SW X Ex Φ (.BoolOp .And [a] pos) A := pw_and1 h
theorem sw_or1 (h : ST X Ex Φ a A) : SW X Ex Φ (.BoolOp .Or [a] pos) A := pw_or1 h
theorem sw_and {es : List Expr} (ha : ST X Ex Φ a A) (hb : SW X Ex Φ (.BoolOp .And (b :: es) pos) B) : SW X Ex Φ (.BoolOp .And (a :: b :: es) pos) (.and A B) :=
  PW.mono (pw_and ha hb) fun σ H Q ⟨m, hb, δ, μ, r, s, h⟩ => by
    unfold evalE at h
    refine ⟨m, hb, δ, μ, r, s, (EvT.bindT (f := fun p => evalE Φ B δ p.2) h).imp fun c H1 ⟨m1, hb1, μ1, e, st, r1, h1⟩ => ?_⟩
    cases c with
    | true => exact ⟨m1, hb1, δ, μ1, r1, s.step st, h1⟩
    | false => exact h1 _ _ _ Step.refl r1
theorem sw_or {es : List Expr} (ha : ST X Ex Φ a A) (hb : SW X Ex Φ (.BoolOp .Or (b :: es) pos) B) : SW X Ex Φ (.BoolOp .Or (a :: b :: es) pos) (.or A B) :=
  PW.mono (pw_or ha hb) fun σ H Q ⟨m, hb, δ, μ, r, s, h⟩ => by
    unfold evalE at h
    refine ⟨m, hb, δ, μ, r, s, (EvT.bindO (f := fun p => evalE Φ B δ p.2) h).imp fun c H1 ⟨m1, hb1, μ1, e, st, r1, h1⟩ => ?_⟩
    cases c with
    | false => exact ⟨m1, hb1, δ, μ1, r1, s.step st, h1⟩
    | true => exact h1 _ _ _ Step.refl r1
theorem st_not (ha : ST X Ex Φ a A) : ST X Ex Φ (.UnaryOp .Not a pos) (.not A) :=
  PT.mono (pt_not ha) fun σ H Q ⟨m, hb, δ, μ, r, s, h⟩ => by
    unfold evalE at h
    refine ⟨m, hb, δ, μ, r, s, ?_⟩
    generalize evalE Φ A δ μ = w at h ⊢
    match w, h with
    | .ok (.bl c, μ'), h => exact h
    | .exc c p μ', h => exact h
theorem se_ite (hc : ST X Ex Φ c C) (ha : SE X Ex Φ a A) (hb : SE X Ex Φ b B) : SE X Ex Φ (.IfExp c a b pos) (.ite C A B) :=
  PE.mono (pe_ifExp hc ha hb) fun σ H Q ⟨m, hb, δ, μ, r, s, h⟩ => by
    unfold evalE at h
    refine ⟨m, hb, δ, μ, r, s, (EvT.bindI (f := fun t p => if t then evalE Φ A δ p.2 else evalE Φ B δ p.2) h).imp fun c H1 ⟨m1, hb1, μ1, e, st, r1, h1⟩ => ?_⟩
    cases c with
    | false => exact ⟨m1, hb1, δ, μ1, r1, s.step st, h1⟩
    | true => exact ⟨m1, hb1, δ, μ1, r1, s.step st, h1⟩
/-- a < b < c -/
theorem se_chain (o o' : COp) (hu : X.A.units + 65 < cLine) (ha : SE X Ex Φ a A) (hb : SE X Ex Φ b B) (hc : SE X Ex Φ c C) (h1 : o ≠ .isN := by decide) (h2 : o ≠ .isntN := by decide) (h3 : o' ≠ .isN := by decide) (h4 : o' ≠ .isntN := by decide) (hm : lastMarks [cmpE o, cmpE o'] [b, c] = false := by with_unfolding_all rfl) :
    SE X Ex Φ (.Compare a [cmpE o, cmpE o'] [b, c] pos) (.chain o o' A B C) :=
  PE.mono (pe_chain (cmpS hu o h1 h2) (cmpS hu o' h3 h4) ha hb hc hm) fun σ H Q ⟨m, hb, δ, μ, r, s, h⟩ => by
    unfold evalE at h
    refine ⟨m, hb, δ, μ, r, s, (Ev.bind h).imp fun x H1 ⟨m1, hb1, d1, μ1, M, h1⟩ => ?_⟩
    refine ⟨m1, hb1, δ, μ1, M.rel, s.step M.st, (Ev.bind h1).imp fun y H2 ⟨m2, hb2, d2, μ2, M2, h2⟩ => ?_⟩
    split at h2
    · rename_i e
      refine ⟨m2, hb2, μ2, d1, d2, true, M2.rel, M.rd.mono M2.st.pre M2.st.sub, M2.rd, e, true, rfl, ?_⟩
      refine iteT ⟨m2, hb2, δ, μ2, M2.rel, (s.step M.st).step M2.st, (Ev.bind h2).imp fun z H3 ⟨m3, hb3, d3, μ3, M3, h3⟩ => ?_⟩
      obtain ⟨d, e, q⟩ := Ev.rB h3
      exact ⟨m3, hb3, μ3, d2, d3, d, M3.rel, M2.rd.mono M3.st.pre M3.st.sub, M3.rd, e, q.here M3.rel (.bl d)⟩
    · rename_i e
      exact ⟨m2, hb2, μ2, d1, d2, false, M2.rel, M.rd.mono M2.st.pre M2.st.sub, M2.rd, e, false, rfl, iteF (Ev.ok (d := .bl false) h2 M2.rel (.bl _))⟩
    · exact h2.elim
theorem st_chain (o o' : COp) (hu : X.A.units + 65 < cLine) (ha : SE X Ex Φ a A) (hb : SE X Ex Φ b B) (hc : SE X Ex Φ c C) (h1 : o ≠ .isN := by decide) (h2 : o ≠ .isntN := by decide) (h3 : o' ≠ .isN := by decide) (h4 : o' ≠ .isntN := by decide) (hm : lastMarks [cmpE o, cmpE o'] [b, c] = false := by with_unfolding_all rfl) :
    ST X Ex Φ (.Compare a [cmpE o, cmpE o'] [b, c] pos) (.chain o o' A B C) :=
  PT.mono (pt_chain (cmpS hu o h1 h2) (cmpS hu o' h3 h4) ha hb hc hm) fun σ H Q ⟨m, hb, δ, μ, r, s, h⟩ => by
    have h := EvT.of h
    unfold evalE at h
    refine ⟨m, hb, δ, μ, r, s, (Ev.bind h).imp fun x H1 ⟨m1, hb1, d1, μ1, M, h1⟩ => ?_⟩
    refine ⟨m1, hb1, δ, μ1, M.rel, s.step M.st, (Ev.bind h1).imp fun y H2 ⟨m2, hb2, d2, μ2, M2, h2⟩ => ?_⟩
    split at h2
    · rename_i e
      refine ⟨m2, hb2, μ2, d1, d2, true, M2.rel, M.rd.mono M2.st.pre M2.st.sub, M2.rd, e, true, rfl, ?_⟩
      refine iteT ⟨m2, hb2, δ, μ2, M2.rel, (s.step M.st).step M2.st, (Ev.bind h2).imp fun z H3 ⟨m3, hb3, d3, μ3, M3, h3⟩ => ?_⟩
      obtain ⟨d, e, q⟩ := Ev.rB h3
      exact ⟨m3, hb3, μ3, d2, d3, d, M3.rel, M2.rd.mono M3.st.pre M3.st.sub, M3.rd, e, q.here M3.rel (.bl d)⟩
    · rename_i e
      exact ⟨m2, hb2, μ2, d1, d2, false, M2.rel, M.rd.mono M2.st.pre M2.st.sub, M2.rd, e, false, rfl, iteF (Ev.ok (d := .bl false) h2 M2.rel (.bl _))⟩
    · exact h2.elim
end
end SC

set_option Elab.async false
set_option linter.all false
set_option maxRecDepth 100000
set_option maxHeartbeats 1000000
/-! SC4: the rules of the expressions, part 3: calls, subscripts, slices, built-ins. -/
namespace SC
open PySem PySem.Spec PyProof.Rows L2

/-! ### calls of defs -/
def spF (K : PySem.W.Frag) (Φ : Fn) (f : String) (n : Nat) : Sp := fun vs H Q E => vs.length = n ∧ ∃ m hb μ ds, Rel K m hb H μ ∧ RdAll K m hb vs ds ∧ Ev K E0 (Φ f ds μ) m hb H Q
def FnC (P : Program) (w : World) (K : PySem.W.Frag) (mg : Str → Option Value) (base : Heap) (CX : CXT) (k : Nat) (Φ : Fn) (x : Str) (f : String) (n : Nat) : Prop :=
  ∃ fa fd ps, FnOk P w K mg base CX k fa fd ps (spF K Φ f n) ∧ ps.length = n ∧ mg x = some (.ref fa) ∧ PySem.W.keepIn K (.ref fa) = true ∧ Binds K fd ps []
section
variable {X : Cx} {Ex : XK} {Φ : Fn} {CX : CXT} {k n : Nat} {x : Str} {f : String}
variable {a b c : Expr} {A B C : SC.E} {pos p : Pos} {es : List Expr}
theorem se_call (F : FnC X.prog X.w X.K X.mg X.base CX k Φ x f n) (hr : Room k X.A) (hx : Passes CX X E0) (ha : SA X E0 Φ (a :: es) A) (hp : packOk A = true := by rfl) (hn : packN A = n := by rfl) (hg : Gl X x := by rfl)
    (hdb : (x == ("__debug__" : Str)) = false := by decide) (he : starEach (a :: es) X.env = (false, eval a X.env) :: starEach es X.env := by rfl) (hpl : (backTo pos (starEach es X.env)).any (·.1) = false := by rfl) :
    SE X E0 Φ (.Call (.Name x p) (a :: es) [] pos) (.call f A) := by
  obtain ⟨fa, fd, ps, F, hps, hm, hk, hb⟩ := F
  refine PE.mono (pe_call F hr hg hm hk hb .nil hx ha hdb he hpl) fun σ H Q ⟨m, hb, δ, μ, r, s, h⟩ => ?_
  unfold evalE at h
  refine ⟨m, hb, δ, μ, r, s, (Ev.bindA h).imp fun vs H1 ⟨m1, hb1, d1, μ1, M, h1⟩ => ?_⟩
  rw [List.append_nil]
  refine ⟨by rw [M.rd.length, pack_len hp M.e]; exact hn, m1, hb1, μ1, _, M.rel, M.rd, h1⟩
theorem se_call0 (F : FnC X.prog X.w X.K X.mg X.base CX k Φ x f 0) (hr : Room k X.A) (hx : Passes CX X E0) (hg : Gl X x := by rfl) (hdb : (x == ("__debug__" : Str)) = false := by decide) :
    SE X E0 Φ (.Call (.Name x p) [] [] pos) (.call f .nil) := by
  obtain ⟨fa, fd, ps, F, hps, hm, hk, hb⟩ := F
  refine PE.mono (pe_call0 F hr hg hm hk hb .nil hx hdb) fun σ H Q ⟨m, hb, δ, μ, r, s, h⟩ => ?_
  unfold evalE at h
  unfold evalE at h
  exact ⟨rfl, m, hb, μ, [], r, .nil, h⟩

/-! ### subscripts -/
theorem atI_rd {K : PySem.W.Frag} {m : List Addr} {hb : Hp} {vs : List V} {xs : List D} {j : Int} {d : D} (h : RdAll K m hb vs xs) (e : atI xs j = some d) : ∃ v, atI vs j = some v ∧ Rdv K m hb v d := by
  unfold atI at e ⊢
  rw [h.length]
  cases q : ixN xs.length j with
  | none => rw [q] at e; cases e
  | some i =>
    rw [q] at e
    obtain ⟨v, h1, h2⟩ := h.get (i := i) (d := d) e
    exact ⟨v, h1, h2⟩
theorem ix_S : IxR X (rS X.K pIdx) := by
  intro ve sl pins s σ H x y v u Q I rx ry ⟨m, hb, μ, a, b, d, r, ra, rb, e, q⟩ hs
  unfold pIdx at e
  split at e
  · rename_i j
    cases rb
    obtain ⟨xs, e1, e2⟩ := Option.bind_eq_some_iff.mp e
    obtain ⟨p, vs, h1, h2, h3⟩ := seq_at r e1 ra
    obtain ⟨w, h4, h5⟩ := atI_rd h3 e2
    refine ix_seq ve sl pins s σ H x _ v u Q I rx ry ?_ hs
    rcases h2 with h2 | h2
    · exact .inl ⟨p, vs, j, w, h1, rfl, h2, h4, q.here r h5⟩
    · exact .inr (.inl ⟨p, vs, j, w, h1, rfl, h2, h4, q.here r h5⟩)
  · cases e
theorem se_idx (ha : SE X Ex Φ a A) (hb : SE X Ex Φ b B) (hs : PlainIx b := by exact fun _ _ => rfl) : SE X Ex Φ (.Subscript a b pos) (.idx A B) :=
  PE.mono (pe_ix ix_S ha hb hs) fun σ H Q ⟨m, hb, δ, μ, r, s, h⟩ => by
    unfold evalE at h
    refine ⟨m, hb, δ, μ, r, s, (Ev.bind h).imp fun x H1 ⟨m1, hb1, d1, μ1, M, h1⟩ => ?_⟩
    refine ⟨m1, hb1, δ, μ1, M.rel, s.step M.st, (Ev.bind h1).imp fun y H2 ⟨m2, hb2, d2, μ2, M2, h2⟩ => ?_⟩
    obtain ⟨d, e, q⟩ := Ev.rD h2
    exact ⟨m2, hb2, μ2, d1, d2, d, M2.rel, M.rd.mono M2.st.pre M2.st.sub, M2.rd, e, q⟩

theorem int_of {K : PySem.W.Frag} {m : List Addr} {hb : Hp} {v : V} {i : Int} (h : Rdv K m hb v (.int i)) : v = .int i := by cases h; rfl
/-! ### slices -/
def EvO (K : PySem.W.Frag) (E : XK) (r : Res (Option Int × Store)) (m : List Addr) (hb H : Hp) (Q : Option Int → Hp → Prop) : Prop := match r with
  | .ok (d, μ') => ∀ m' hb' H', Step m hb H m' hb' H' → Rel K m' hb' H' μ' → Q d H'
  | .exc c p μ' => ∀ m' hb' H', Step m hb H m' hb' H' → Rel K m' hb' H' μ' → exW K E c p H'
  | .bad => False
def SO (X : Cx) (E : XK) (Φ : Fn) (e : Option Expr) (A : SC.E) : Prop := PO X e (fun σ H Q => ∃ m hb δ μ, Rel X.K m hb H μ ∧ Slots X.K m hb H δ σ ∧ EvO X.K E (partE A (evalE Φ A δ μ) μ) m hb H Q)
theorem PO.mono {X : Cx} {e : Option Expr} {t t' : TO} (h : PO X e t) (i : ∀ σ H Q, t' σ H Q → t σ H Q) : PO X e t' := ⟨fun pins s σ H Q I q => h.run pins s σ H Q I (i _ _ _ q)⟩
theorem so_none : SO X Ex Φ none .nil := PO.mono po_none fun σ H Q ⟨m, hb, δ, μ, r, s, h⟩ => h m hb H Step.refl r
theorem so_some (ha : SE X Ex Φ a A) (hA : ∀ r μ, partE A r μ = r.bind fun q => (rI q.1).bind fun i => .ok (some i, q.2) := by intro _ _; rfl) : SO X Ex Φ (some a) A :=
  PO.mono (po_some ha) fun σ H Q ⟨m, hb, δ, μ, r, s, h⟩ => by
    rw [hA] at h
    refine ⟨m, hb, δ, μ, r, s, ?_⟩
    generalize evalE Φ A δ μ = w at h ⊢
    match w, h with
    | .ok (.int i, μ'), h => exact fun v m' hb' H' s r rd => ⟨i, int_of rd, h m' hb' H' s r⟩
    | .exc c p μ', h => exact h
theorem EvO.step {K : PySem.W.Frag} {E : XK} {m m1 : List Addr} {hb hb1 H H1 : Hp} {r : Res (Option Int × Store)} {Q : Option Int → Hp → Prop} (h : EvO K E r m hb H Q) (t : Step m hb H m1 hb1 H1) : EvO K E r m1 hb1 H1 Q := by
  match r, h with
  | .ok (d, μ'), h => exact fun m' hb' H' s r => h m' hb' H' (t.trans s) r
  | .exc c p μ', h => exact fun m' hb' H' s r => h m' hb' H' (t.trans s) r
theorem EvO.imp {K : PySem.W.Frag} {E : XK} {m : List Addr} {hb H : Hp} {r : Res (Option Int × Store)} {Q Q' : Option Int → Hp → Prop} (h : EvO K E r m hb H Q) (i : ∀ v H', Q v H' → Q' v H') : EvO K E r m hb H Q' := by
  match r, h with
  | .ok (d, μ'), h => exact fun m' hb' H' s r => i _ _ (h m' hb' H' s r)
  | .exc c p μ', h => exact h
theorem Ev.bindO {K : PySem.W.Frag} {E : XK} {m : List Addr} {hb H : Hp} {Q : VK} {r : Res (Option Int × Store)} {f : Option Int × Store → Res (D × Store)} (h : Ev K E (r.bind f) m hb H Q) :
    EvO K E r m hb H fun o H1 => ∃ m1 hb1 μ1, Step m hb H m1 hb1 H1 ∧ Rel K m1 hb1 H1 μ1 ∧ Ev K E (f (o, μ1)) m1 hb1 H1 Q := by
  match r, h with
  | .ok (d, μ'), h => exact fun m' hb' H' s r => ⟨m', hb', μ', s, r, Ev.step h s⟩
  | .exc c p μ', h => exact fun m' hb' H' s r => h m' hb' H' s r
theorem RdAll.cut {K : PySem.W.Frag} {m : List Addr} {hb : Hp} {vs : List V} {xs : List D} (h : RdAll K m hb vs xs) (lo hi : Option Int) : RdAll K m hb (cutV vs lo hi) (SC.cut xs lo hi) := by
  unfold cutV SC.cut
  rw [h.length]
  exact (h.drop _).take _
theorem cut_whole {α : Type} (xs : List α) (lo hi : Option Int) (h : HT.sIx xs.length 0 lo = 0 ∧ HT.sIx xs.length xs.length hi = xs.length) : SC.cut xs lo hi = xs := by
  unfold SC.cut
  rw [h.1, h.2]
  simp
theorem sl_S : SlR X (fun x lo hi H Q => ∃ m hb μ a d, Rel X.K m hb H μ ∧ Rdv X.K m hb x a ∧ pSlc μ a lo hi = some d ∧ Fin X.K m hb H μ d Q) := by
  intro pins s σ H x v vl vu lo hi sl Q I rx hs pl pu ⟨m, hb, μ, a, d, r, ra, e, q⟩
  cases a with
  | tup xs =>
    cases e
    cases ra with | tup ha ta =>
    refine sl_tupA pins s σ H _ v vl vu lo hi sl Q I rx hs pl pu ⟨_, _, rfl, sqT_up r ha, fun z => ?_, fun _ => q.tup r (ta.cut lo hi)⟩
    rw [ta.length] at z
    rw [cut_whole _ _ _ z] at q
    exact q.here r (.tup ha ta)
  | lst xs =>
    cases e
    cases ra with | lst ha ta =>
    exact sl_list pins s σ H _ v vl vu lo hi sl Q I rx hs pl pu ⟨_, _, rfl, .inl (rd_up r ha), q.lst r (ta.cut lo hi)⟩
  | ref k =>
    obtain ⟨xs, e1, rfl⟩ := Option.map_eq_some_iff.mp e
    cases ra with | ref ha =>
    obtain ⟨p, vs, h1, h2, h3⟩ := r.at e1
    rw [ha] at h1; cases h1
    exact sl_list pins s σ H _ v vl vu lo hi sl Q I rx hs pl pu ⟨_, _, rfl, .inl (.inl h2), q.lst r (h3.cut lo hi)⟩
  | scr xs =>
    cases e
    cases ra with | scr ha ta =>
    exact sl_list pins s σ H _ v vl vu lo hi sl Q I rx hs pl pu ⟨_, _, rfl, sqL_sub r.sub ha, q.lst r (ta.cut lo hi)⟩
  | str z =>
    simp only [pSlc] at e
    split at e
    · cases e; cases ra
      exact sl_str pins s σ H _ v vl vu lo hi sl Q I rx hs pl pu ⟨z, rfl, ‹_›, q.here r (.str _)⟩
    · cases e
  | _ => cases e
theorem se_slc {lo hi : Option Expr} {L U : SC.E} {p2 : Pos} (ha : SE X Ex Φ a A) (hl : SO X Ex Φ lo L) (hu : SO X Ex Φ hi U) : SE X Ex Φ (.Subscript a (.Slice lo hi none p2) pos) (.slc A L U) :=
  PE.mono (pe_slice sl_S ha hl hu) fun σ H Q ⟨m, hb, δ, μ, r, s, h⟩ => by
    unfold evalE at h
    refine ⟨m, hb, δ, μ, r, s, (Ev.bind h).imp fun x H1 ⟨m1, hb1, d1, μ1, M, h1⟩ => ?_⟩
    refine ⟨m1, hb1, δ, μ1, M.rel, s.step M.st, (Ev.bindO h1).imp fun l H2 ⟨m2, hb2, μ2, s2, r2, h2⟩ => ?_⟩
    refine ⟨m2, hb2, δ, μ2, r2, (s.step M.st).step s2, (Ev.bindO h2).imp fun u H3 ⟨m3, hb3, μ3, s3, r3, h3⟩ => ?_⟩
    obtain ⟨d, e, q⟩ := Ev.rD h3
    exact ⟨m3, hb3, μ3, d1, d, r3, (M.rd.mono s2.pre s2.sub).mono s3.pre s3.sub, e, q⟩

/-! ### built-ins -/
def rC (K : PySem.W.Frag) (f : BF) : List V → Hp → VK → Prop := fun vs H Q => ∃ m hb μ ds d, Rel K m hb H μ ∧ RdAll K m hb vs ds ∧ pBf f μ ds = some d ∧ Fin K m hb H μ d Q
theorem RdAll.one {K : PySem.W.Frag} {m : List Addr} {hb : Hp} {vs : List V} {d : D} (h : RdAll K m hb vs [d]) : ∃ v, vs = [v] ∧ Rdv K m hb v d := by
  cases h with | cons h t => cases t; exact ⟨_, rfl, h⟩
theorem RdAll.two {K : PySem.W.Frag} {m : List Addr} {hb : Hp} {vs : List V} {d e : D} (h : RdAll K m hb vs [d, e]) : ∃ v w, vs = [v, w] ∧ Rdv K m hb v d ∧ Rdv K m hb w e := by
  cases h with | cons h t => cases t with | cons h' t => cases t; exact ⟨_, _, rfl, h, h'⟩
theorem lenD_cases {μ : Store} {x d : D} (e : lenD μ x = some d) : (∃ z, x = .str z ∧ z.length ≤ sizeLine ∧ d = .int z.length) ∨ (∃ ks vs, x = .dct ks vs) ∨ ∃ xs, seqOf μ x = some xs ∧ d = .int xs.length := by
  cases x with
  | str z =>
    simp only [lenD] at e
    split at e
    · cases e; exact .inl ⟨z, rfl, ‹_›, rfl⟩
    · cases e
  | dct ks vs => exact .inr (.inl ⟨ks, vs, rfl⟩)
  | _ =>
    simp only [lenD, Option.map_eq_some_iff] at e
    obtain ⟨xs, e1, e2⟩ := e
    exact .inr (.inr ⟨xs, e1, e2.symm⟩)
theorem listD_cases {μ : Store} {x d : D} (e : listD μ x = some d) : (∃ ks vs, x = .dct ks vs) ∨ ∃ xs, seqOf μ x = some xs ∧ d = .lst xs := by
  cases x with
  | dct ks vs => exact .inl ⟨ks, vs, rfl⟩
  | _ =>
    simp only [listD, Option.map_eq_some_iff] at e
    obtain ⟨xs, e1, e2⟩ := e
    exact .inr ⟨xs, e1, e2.symm⟩
theorem cb_len : CallR X (.builtin "len") (rC X.K .len) := by
  intro pins s σ H vs us Q I rv ⟨m, hb, μ, ds, d, r, rd, e, q⟩
  match ds, rd, e with
  | [x], rd, e =>
    obtain ⟨v, rfl, rd1⟩ := rd.one; clear rd
    rcases lenD_cases e with ⟨z, rfl, hz, rfl⟩ | ⟨ks, vs, rfl⟩ | ⟨xs, e1, rfl⟩
    · cases rd1
      exact call_len_str pins s σ H _ us Q I rv ⟨z, rfl, hz, q.here r (.int _)⟩
    · cases rd1
    · obtain ⟨p, ws, h1, h2, h3⟩ := seq_at r e1 rd1
      exact call_len_seq pins s σ H _ us Q I rv ⟨p, ws, by rw [h1], h2, by rw [h3.length]; exact q.here r (.int _)⟩
theorem cb_int : CallR X (.type "int") (rC X.K .int) := by
  intro pins s σ H vs us Q I rv ⟨m, hb, μ, ds, d, r, rd, e, q⟩
  match ds, rd, e with
  | [.int i], rd, e =>
    cases e
    obtain ⟨v, rfl, rd1⟩ := rd.one; cases rd1
    exact call_int1 pins s σ H _ us Q I rv (.inl ⟨i, rfl, q.here r (.int _)⟩)
  | [.bl i], rd, e =>
    cases e
    obtain ⟨v, rfl, rd1⟩ := rd.one; cases rd1
    exact call_int1 pins s σ H _ us Q I rv (.inr ⟨i, rfl, q.here r (.int _)⟩)
theorem cb_min (hc : X.calm = true) : CallR X (.builtin "min") (rC X.K .min) := by
  intro pins s σ H vs us Q I rv ⟨m, hb, μ, ds, d, r, rd, e, q⟩
  match ds, rd, e with
  | [.int i, .int j], rd, e =>
    cases e
    obtain ⟨v, w, rfl, r1, r2⟩ := rd.two
    cases r1; cases r2
    exact call_min2 hc pins s σ H _ us Q I rv ⟨i, j, rfl, q.here r (.int _)⟩
theorem cb_max (hc : X.calm = true) : CallR X (.builtin "max") (rC X.K .max) := by
  intro pins s σ H vs us Q I rv ⟨m, hb, μ, ds, d, r, rd, e, q⟩
  match ds, rd, e with
  | [.int i, .int j], rd, e =>
    cases e
    obtain ⟨v, w, rfl, r1, r2⟩ := rd.two
    cases r1; cases r2
    exact call_max2 hc pins s σ H _ us Q I rv ⟨i, j, rfl, q.here r (.int _)⟩
theorem cb_tuple : CallR X (.type "tuple") (rC X.K .tuple) := by
  intro pins s σ H vs us Q I rv ⟨m, hb, μ, ds, d, r, rd, e, q⟩
  match ds, rd, e with
  | [x], rd, e =>
    obtain ⟨v, rfl, rd1⟩ := rd.one; clear rd
    obtain ⟨xs, e1, rfl⟩ := Option.map_eq_some_iff.mp e
    have rd0 := rd1
    cases rd1 with
    | tup h t =>
      cases e1
      exact call_tuple_of pins s σ H _ us Q I rv ⟨_, _, rfl, .inr ⟨sqT_up r h, q.here r rd0⟩⟩
    | lst h t =>
      cases e1
      exact call_tuple_of pins s σ H _ us Q I rv ⟨_, _, rfl, .inl ⟨.inl (rd_up r h), q.tup r t⟩⟩
    | ref h =>
      obtain ⟨p, ws, h1, h2, h3⟩ := r.at e1
      rw [h] at h1; cases h1
      exact call_tuple_of pins s σ H _ us Q I rv ⟨_, _, rfl, .inl ⟨.inl (.inl h2), q.tup r h3⟩⟩
    | _ => cases e1
theorem cb_list : CallR X (.type "list") (rC X.K .list) := by
  intro pins s σ H vs us Q I rv ⟨m, hb, μ, ds, d, r, rd, e, q⟩
  match ds, rd, e with
  | [x], rd, e =>
    obtain ⟨v, rfl, rd1⟩ := rd.one; clear rd
    rcases listD_cases e with ⟨ks, vs, rfl⟩ | ⟨xs, e1, rfl⟩
    · cases rd1
    · obtain ⟨p, ws, h1, h2, h3⟩ := seq_at r e1 rd1
      exact call_list_of pins s σ H _ us Q I rv ⟨p, ws, by rw [h1], h2, q.lst r h3⟩
theorem allBl_rd {K : PySem.W.Frag} {m : List Addr} {hb : Hp} : ∀ {xs : List D} {vs : List V} {bs : List Bool}, RdAll K m hb vs xs → allBl xs = some bs → vs = bs.map V.bl
  | [], _, _, h, e => by cases h; cases e; rfl
  | .bl b :: r, _, bs, h, e => by
    obtain ⟨cs, e1, rfl⟩ := Option.map_eq_some_iff.mp e
    cases h with | cons h t =>
    cases h
    rw [allBl_rd t e1]
    rfl
  | .non :: _, _, _, _, e => by cases e
  | .int _ :: _, _, _, _, e => by cases e
  | .str _ :: _, _, _, _, e => by cases e
  | .tup _ :: _, _, _, _, e => by cases e
  | .lst _ :: _, _, _, _, e => by cases e
  | .dct _ _ :: _, _, _, _, e => by cases e
  | .ref _ :: _, _, _, _, e => by cases e
  | .scr _ :: _, _, _, _, e => by cases e
theorem cb_all (hc : X.calm = true) : CallR X (.builtin "all") (rC X.K .all) := by
  intro pins s σ H vs us Q I rv ⟨m, hb, μ, ds, d, r, rd, e, q⟩
  match ds, rd, e with
  | [.lst xs], rd, e =>
    obtain ⟨v, rfl, rd1⟩ := rd.one; clear rd
    obtain ⟨bs, e1, rfl⟩ := Option.map_eq_some_iff.mp e
    cases rd1 with | lst h t =>
    have z := allBl_rd t e1
    subst z
    exact cr_all hc pins s σ H _ us Q I rv ⟨_, bs, rfl, .inl (rd_up r h), q.here r (.bl _)⟩
theorem cb_any (hc : X.calm = true) : CallR X (.builtin "any") (rC X.K .any) := by
  intro pins s σ H vs us Q I rv ⟨m, hb, μ, ds, d, r, rd, e, q⟩
  match ds, rd, e with
  | [.lst xs], rd, e =>
    obtain ⟨v, rfl, rd1⟩ := rd.one; clear rd
    obtain ⟨bs, e1, rfl⟩ := Option.map_eq_some_iff.mp e
    cases rd1 with | lst h t =>
    have z := allBl_rd t e1
    subst z
    exact cr_any hc pins s σ H _ us Q I rv ⟨_, bs, rfl, .inl (rd_up r h), q.here r (.bl _)⟩
theorem tC_of {K : PySem.W.Frag} {F : BF} {σ : L2.St} {H : Hp} {Q : VK} {A : SC.E} (h : tS K Ex Φ (.bi F A) σ H Q) : tCB (rC K F) (tSA K Ex Φ A) σ H Q := by
  obtain ⟨m, hb, δ, μ, r, s, h⟩ := h
  unfold evalE at h
  refine ⟨m, hb, δ, μ, r, s, (Ev.bindA h).imp fun vs H1 ⟨m1, hb1, d1, μ1, M, h1⟩ => ?_⟩
  obtain ⟨d, e, q⟩ := Ev.rD h1
  exact ⟨m1, hb1, μ1, _, d, M.rel, M.rd, e, q⟩
/-- f(e, ..), f a built-in function; T(e, ..), a built-in type -/
theorem se_bi (F : BF) {id : String} (hc : CallR X (.builtin id) (rC X.K F)) (hm : X.mg x = none) (hv : bootBuiltins x = some (.builtin id)) (ha : SA X Ex Φ (a :: es) A) (hg : Gl X x := by rfl) (hn : x ≠ "__name__" := by decide) (hdb : (x == ("__debug__" : Str)) = false := by decide)
    (he : starEach (a :: es) X.env = (false, eval a X.env) :: starEach es X.env := by rfl) (hpl : (backTo pos (starEach es X.env)).any (·.1) = false := by rfl) : SE X Ex Φ (.Call (.Name x p) (a :: es) [] pos) (.bi F A) :=
  PE.mono (pe_callB hc hg hm hv ha hn hdb he hpl) fun σ H Q h => tC_of h
theorem se_biT (F : BF) {id : String} (hc : CallR X (.type id) (rC X.K F)) (hm : X.mg x = none) (hv : bootBuiltins x = some (.type id)) (ha : SA X Ex Φ (a :: es) A) (hg : Gl X x := by rfl) (hn : x ≠ "__name__" := by decide) (hdb : (x == ("__debug__" : Str)) = false := by decide)
    (he : starEach (a :: es) X.env = (false, eval a X.env) :: starEach es X.env := by rfl) (hpl : (backTo pos (starEach es X.env)).any (·.1) = false := by rfl) : SE X Ex Φ (.Call (.Name x p) (a :: es) [] pos) (.bi F A) :=
  PE.mono (pe_callTy hc hg hm hv ha hn hdb he hpl) fun σ H Q h => tC_of h
end
theorem bt_isinstance : bootBuiltins "isinstance" = some (.builtin "isinstance") := by decide +kernel
theorem bt_len : bootBuiltins "len" = some (.builtin "len") := by decide +kernel
theorem bt_int : bootBuiltins "int" = some (.type "int") := by decide +kernel
theorem bt_bool : bootBuiltins "bool" = some (.type "bool") := by decide +kernel
theorem bt_str : bootBuiltins "str" = some (.type "str") := by decide +kernel
theorem bt_list : bootBuiltins "list" = some (.type "list") := by decide +kernel
theorem bt_tuple : bootBuiltins "tuple" = some (.type "tuple") := by decide +kernel
theorem bt_set : bootBuiltins "set" = some (.type "set") := by decide +kernel
theorem bt_sorted : bootBuiltins "sorted" = some (.builtin "sorted") := by decide +kernel
theorem bt_max : bootBuiltins "max" = some (.builtin "max") := by decide +kernel
theorem bt_min : bootBuiltins "min" = some (.builtin "min") := by decide +kernel
theorem bt_all : bootBuiltins "all" = some (.builtin "all") := by decide +kernel
theorem bt_any : bootBuiltins "any" = some (.builtin "any") := by decide +kernel
theorem bt_range : bootBuiltins "range" = some (.type "range") := by decide +kernel
theorem bt_enumerate : bootBuiltins "enumerate" = some (.type "enumerate") := by decide +kernel
theorem bt_zip : bootBuiltins "zip" = some (.type "zip") := by decide +kernel

/-! ### isinstance -/
def tyL : List String := ["NoneType", "bool", "int", "str", "tuple", "list"]
def tyC : List String := ["bool", "int", "str", "tuple", "list"]
theorem kit_all : (tyL.all fun t => tyC.all fun c => decide (kitB t c = some (isTy t c))) = true := by decide +kernel
theorem pTy_mem {d : D} {t : String} (h : pTy d = some t) : t ∈ tyL := by
  cases d <;> cases h <;> decide
theorem kit_one {K : PySem.W.Frag} {d : D} {t c : String} (h : pTy d = some t) (hc : c ∈ tyC) : PySem.W.kitOne K (.type t) (.type c) = some (isTy t c) := by
  have h1 := List.all_eq_true.mp (List.all_eq_true.mp kit_all t (pTy_mem h)) c hc
  exact kit_ty (of_decide_eq_true h1)
theorem kit_any {K : PySem.W.Frag} {d : D} {t : String} (h : pTy d = some t) : ∀ {cs : List String}, (∀ c ∈ cs, c ∈ tyC) → PySem.W.kitAny K (.type t) (cs.map Value.type) = some (cs.any (isTy t))
  | [], _ => rfl
  | c :: cs, hc => by
    refine kitAny_cons (kit_one h (hc c List.mem_cons_self)) (fun z => ?_) (fun z => ?_)
    · rw [kit_any h fun c h => hc c (List.mem_cons_of_mem _ h), List.any_cons, z, Bool.false_or]
    · rw [List.any_cons, z, Bool.true_or]
theorem tyx_of {K : PySem.W.Frag} {m : List Addr} {hb H : Hp} {μ : Store} {v : V} {d : D} {t : String} (r : Rel K m hb H μ) (h : Rdv K m hb v d) (e : pTy d = some t) : TyX K H v (.type t) := by
  cases h with
  | non => cases e; exact .base .non
  | bl b => cases e; exact .base (.bl b)
  | int i => cases e; exact .base (.int i)
  | str x => cases e; exact .base (.str x)
  | tup h t =>
    cases e
    rcases sqT_up r h with (h | ⟨o, h⟩) | ⟨o, its, n, h1, h2, _⟩
    · exact .base (.tup h)
    · exact .fTuple h
    · exact .kTuple h1 h2
  | lst h t =>
    cases e
    rcases rd_up r h with h | ⟨o, h⟩
    · exact .base (.lst h)
    · exact .base (.frz h)
  | ref h =>
    cases e
    obtain ⟨_, vs, xs, _, h2, _⟩ := r.cell _ _ h
    exact .base (.lst h2)
  | scr _ _ => cases e
section
variable {X : Cx} {Ex : XK} {Φ : Fn} {a : Expr} {A : SC.E} {pos p p1 p2 : Pos}
/-- a built-in type by its name -/
theorem pe_tyn {T : Str} {n : String} (hm : X.mg T = none) (hv : bootBuiltins T = some (.type n)) (hg : Gl X T := by rfl) (hn : T ≠ "__name__" := by decide) (hd : (T == ("__debug__" : Str)) = false := by decide) : PE X (.Name T pos) (tC (.ty n)) := pe_bltn hg hm hv rfl hn hd
theorem se_isi {es : List Expr} {n : String} (hmi : X.mg "isinstance" = none) (ha : SE X Ex Φ a A) (hes : PA X es (tCons (tC (.ty n)) tNil)) (hn : n ∈ tyC := by decide) (hg : Gl X "isinstance" := by rfl)
    (hs : starEach (a :: es) X.env = (false, eval a X.env) :: starEach es X.env := by rfl) (hpl : (backTo pos (starEach es X.env)).any (·.1) = false := by rfl) :
    SE X Ex Φ (.Call (.Name "isinstance" p) (a :: es) [] pos) (.isi A [n]) :=
  PE.mono (pe_callB call_isi hg hmi bt_isinstance (pa_cons ha hes hs) (by decide) (by decide) hs hpl) fun σ H Q ⟨m, hb, δ, μ, r, s, h⟩ => by
    unfold evalE at h
    refine ⟨m, hb, δ, μ, r, s, (Ev.bind h).imp fun x H1 ⟨m1, hb1, d1, μ1, M, h1⟩ => ?_⟩
    obtain ⟨b, e, q⟩ := Ev.rB h1
    obtain ⟨t, e1, e2⟩ := Option.map_eq_some_iff.mp e
    refine ⟨x, .ty n, .type t, .type n, b, rfl, .ty n, tyx_of M.rel M.rd e1, ?_, q.here M.rel (.bl b)⟩
    rw [kit_one e1 hn, ← e2]
    simp
theorem cls_ty : ∀ ns : List String, Paired ClsV (ns.map V.ty) (ns.map Value.type)
  | [] => .nil
  | n :: ns => .cons (.ty n) (cls_ty ns)
/-- names of types, one after another -/
def tTys (ns : List String) : TA := fun _ H Q => Q (ns.map V.ty) H
theorem pa_ty0 : PA X [] (tTys []) := pa_nil
theorem pa_ty {T : Str} {n : String} {ns : List String} {es : List Expr} (hm : X.mg T = none) (hv : bootBuiltins T = some (.type n)) (hr : PA X es (tTys ns)) (hg : Gl X T := by rfl) (hn : T ≠ "__name__" := by decide) (hd : (T == ("__debug__" : Str)) = false := by decide)
    (hs : starEach (.Name T pos :: es) X.env = (false, eval (.Name T pos) X.env) :: starEach es X.env := by rfl) : PA X (.Name T pos :: es) (tTys (n :: ns)) :=
  PA.mono (pa_cons (pe_tyn hm hv hg hn hd) hr hs) fun _ _ _ h => h
theorem se_isiT {es ts : List Expr} {ns : List String} {k : Nat} (hmi : X.mg "isinstance" = none) (ha : SE X Ex Φ a A) (hts : PA X ts (tTys ns)) (hn : ∀ n ∈ ns, n ∈ tyC := by decide) (hl : ns.length ≤ sizeLine := by decide) (hg : Gl X "isinstance" := by rfl)
    (hs : starEach [a, .Tuple ts k p1] X.env = (false, eval a X.env) :: starEach [.Tuple ts k p1] X.env := by rfl) (hs2 : starEach [.Tuple ts k p1] X.env = (false, eval (.Tuple ts k p1) X.env) :: starEach [] X.env := by rfl) (hpl : (backTo pos (starEach [.Tuple ts k p1] X.env)).any (·.1) = false := by rfl) :
    SE X Ex Φ (.Call (.Name "isinstance" p) [a, .Tuple ts k p1] [] pos) (.isi A ns) :=
  PE.mono (pe_callB call_isiT hg hmi bt_isinstance (pa_cons ha (pa_cons (pe_tup hts) pa_nil hs2) hs) (by decide) (by decide) hs hpl) fun σ H Q ⟨m, hb, δ, μ, r, s, h⟩ => by
    unfold evalE at h
    refine ⟨m, hb, δ, μ, r, s, (Ev.bind h).imp fun x H1 ⟨m1, hb1, d1, μ1, M, h1⟩ => ?_⟩
    refine ⟨by rw [List.length_map]; exact hl, fun tp htp => ?_⟩
    obtain ⟨b, e, q⟩ := Ev.rB h1
    obtain ⟨t, e1, e2⟩ := Option.map_eq_some_iff.mp e
    obtain ⟨r2, s2⟩ := M.rel.laid (o := .tup (ns.map V.ty)) htp
    have rd2 := M.rd.mono s2.pre s2.sub
    refine ⟨x, tp, ns.map V.ty, .type t, ns.map Value.type, b, rfl, upd_same, cls_ty ns, tyx_of r2 rd2 e1, ?_, q _ _ _ _ s2 r2 (.bl b)⟩
    rw [kit_any e1 hn, ← e2]
end
end SC

set_option Elab.async false
set_option linter.all false
set_option maxRecDepth 100000
set_option maxHeartbeats 2000000
/-! SC5a: enumerate, zip over lists and tuples in any mix, as turns. -/
namespace SC
open PySem PySem.Spec PyProof.Rows L2
open AutoSeq1 (wpAny_loadPart')

theorem meets_enumerate_new1 {v : Value} {o : Obj} {H : Heap → Prop} (B : Begins v o H) :
    Meets (Builtin.«enumerate.__new__» ⟨[.type "enumerate", v], []⟩) (fun _ R s => H s.heap ∧
      R (.ok (.ret (.ref (s.heap.push o).objs.size))) { s with heap := (s.heap.push o).push { cls := .type "enumerate", data := .fields #[.none, .bool false, .ref s.heap.objs.size, rawInt 0, .none, .none] } }) :=
  .of_wp fun prog w A R s h => by
    obtain ⟨hp, g, d, tk, os⟩ := s; obtain ⟨h1, h⟩ := h
    have hsub := sub_enumerate
    have q1 : ∀ {A' : Around} {E : Value → Shared → Prop} {Q : Value → Shared → Prop}, Q (.ref hp.objs.size) ⟨hp.push o, g, d, tk, os⟩ → wpAny (model prog w) A' (pyIter v) Q E ⟨hp, g, d, tk, os⟩ :=
      fun q => B.iter prog w _ _ ⟨hp, g, d, tk, os⟩ _ h1 q
    wp_walk using q1
    refine wpAny_stack_any fun st => wpAny_pure ?_
    split
    · rename_i c _ _ _ _ _
      cases (c == Value.type "enumerate")
      · wp_walk using q1
        exact ⟨_, rfl, h⟩
      · wp_walk using q1
        exact ⟨_, rfl, h⟩
    · wp_walk using q1
      exact ⟨_, rfl, h⟩
section
variable {prog : Program} {w : World} {A : Around} {E : Value → Shared → Prop} {s : Shared}
theorem enum_begins1 {v : Value} {o : Obj} {H : Heap → Prop} {Q : Value → Shared → Prop} (B : Begins v o H) (h1 : H s.heap)
    (h : ∀ h', IsEnum h' (s.heap.objs.size + 1) s.heap.objs.size 0 .none → h'.get? s.heap.objs.size = some o → h'.objs.size = s.heap.objs.size + 2 →
      (∀ b o, s.heap.get? b = some o → h'.get? b = some o) → Q (.ref (s.heap.objs.size + 1)) { s with heap := h' }) :
    wpAny (model prog w) A (call (.type "enumerate") [v]) Q E s := by
  refine callType_new F.called_enumerate (by decide) (F.typeCall_enumerate_1 _) (F.newCall_enumerate_1 _) (fun obj => F.args_object_init_2 obj _) F.entry_enumerate_new
    (meets_enumerate_new1 B) ⟨h1, ?_⟩
  have hz : (s.heap.push o).objs.size = s.heap.objs.size + 1 := Heap.size_push ..
  show _ ∧ _
  rw [hz]
  have he : IsEnum ((s.heap.push o).push { cls := .type "enumerate", data := .fields #[.none, .bool false, .ref s.heap.objs.size, rawInt 0, .none, .none] }) (s.heap.objs.size + 1) s.heap.objs.size 0 .none := by
    have := Heap.get?_push_size (s.heap.push o) (o := { cls := .type "enumerate", data := .fields #[.none, .bool false, .ref s.heap.objs.size, rawInt 0, .none, .none] }) rfl
    rw [hz] at this; exact this
  refine ⟨⟨_, he, rfl⟩, h _ he (Heap.get?_push_of_some _ (Heap.get?_push_size _ B.free)) (by rw [Heap.size_push, hz]) fun b o x => Heap.get?_push_of_some _ (Heap.get?_push_of_some _ x)⟩
end

/-! ### a list or a tuple -/
def SqB (K : PySem.W.Frag) : Bool → Hp → Addr → List V → Prop
  | true, H, a, vs => SqL K H a vs
  | false, H, a, vs => SqT K H a vs
def ItB : Bool → Heap → Addr → Addr → Nat → Prop
  | true, h, it, a, i => h.IsListIter it a i
  | false, h, it, a, i => h.IsTupleIter it a i
def ArB : Bool → Heap → Addr → Array Value → Prop
  | true, h, a, its => h.IsList a its
  | false, h, a, its => h.IsTuple a its
def objB : Bool → Addr → Obj
  | true, a => { cls := .type "list_iterator", data := .fields #[.ref a, .int 0 0] }
  | false, a => { cls := .type "tuple_iterator", data := .fields #[.ref a, .int 0 0] }
theorem drawsB {prog : Program} {w : World} {A : Around} (hh : A.handled = none) (b : Bool) (it a : Addr) (hne : a ≠ it) (its : Array Value) :
    Draws prog w A it [it, a] its.size (fun i v => its[i]? = some v) (fun i h => ItB b h it a i ∧ ArB b h a its) := by
  cases b with
  | true => exact Draws.list hh it a hne its
  | false => exact Draws.tuple hh it a hne its
theorem beginsB (b : Bool) (a : Addr) (its : Array Value) : Begins (.ref a) (objB b a) fun h => ArB b h a its := by
  cases b with
  | true => exact begins_list a its
  | false => exact begins_tuple a its
theorem itB_new {b : Bool} {h : Heap} {it a : Addr} (e : h.get? it = some (objB b a)) : ItB b h it a 0 := by
  cases b with
  | true => exact ⟨_, e, rfl, rfl⟩
  | false => exact ⟨_, e, rfl, rfl⟩
theorem ItB.obj {b : Bool} {h : Heap} {it a : Addr} {i : Nat} (x : ItB b h it a i) : ∃ o, h.get? it = some o ∧ ∀ v, o.data ≠ .cell v := by
  cases b with
  | true => obtain ⟨o, e, _, d⟩ := x; exact ⟨o, e, fun v z => by rw [d] at z; cases z⟩
  | false => obtain ⟨o, e, _, d⟩ := x; exact ⟨o, e, fun v z => by rw [d] at z; cases z⟩
theorem ItB.at {b : Bool} {h h' : Heap} {it a : Addr} {i : Nat} (x : ItB b h it a i) (k : ∀ o, h.get? it = some o → h'.get? it = some o) : ItB b h' it a i := by
  cases b with
  | true => exact Heap.IsListIter.at x k
  | false => exact Heap.IsTupleIter.at x k
section
variable {X : Cx} {pins : List (Addr × Obj)} {σ : L2.St} {H : Hp} {s : Shared} {a : Addr} {vs : List V}
theorem Inv.ar (I : Inv X pins σ H s) {b : Bool} (h : SqB X.K b H a vs) : ∃ its : List Value, Vals vs its ∧ ArB b s.heap a its.toArray ∧ vs.length ≤ sizeLine ∧ a < s.heap.objs.size := by
  cases b with
  | true =>
    obtain ⟨its, r, p, z⟩ := I.list h
    exact ⟨its, r, p.isList, z, p.lt⟩
  | false =>
    obtain ⟨its, r, p, z⟩ := I.tuple h
    exact ⟨its, r, p, z, p.lt⟩
end
/-- the sources stand -/
def NowL (K : PySem.W.Frag) : List (Bool × Addr) → List (List V) → Hp → Prop
  | [], [], _ => True
  | p :: L, vs :: r, H => SqB K p.1 H p.2 vs ∧ NowL K L r H
  | _, _, _ => False
def NowN (K : PySem.W.Frag) (L : List (Bool × Addr)) (ns : List Nat) (H : Hp) : Prop := ∃ vss, NowL K L vss H ∧ vss.map List.length = ns
theorem Inv.sq_inj {X : Cx} {pins : List (Addr × Obj)} {σ : L2.St} {H : Hp} {s : Shared} (I : Inv X pins σ H s) {b : Bool} {a : Addr} {v u : List V} (h : SqB X.K b H a v) (h' : SqB X.K b H a u) : v = u := by
  cases b with
  | true => exact I.list_inj h h'
  | false => exact I.tuple_inj h h'
theorem Inv.now_inj {X : Cx} {pins : List (Addr × Obj)} {σ : L2.St} {H : Hp} {s : Shared} (I : Inv X pins σ H s) (L : List (Bool × Addr)) : ∀ (a b : List (List V)), NowL X.K L a H → NowL X.K L b H → a = b := by
  induction L with
  | nil =>
    intro a b h h'
    cases a with
    | nil => cases b with
      | nil => rfl
      | cons _ _ => exact h'.elim
    | cons _ _ => exact h.elim
  | cons p L ih =>
    intro a b h h'
    cases a with
    | nil => exact h.elim
    | cons v r =>
      cases b with
      | nil => exact h'.elim
      | cons u t =>
        rw [Inv.sq_inj I h.1 h'.1, ih r t h.2 h'.2]
/-- n turns over sources; what is given is a new tuple, told by Y -/
def ItT (K : PySem.W.Frag) (L : List (Bool × Addr)) (ns : List Nat) (n : Nat) (Y : List (List V) → Nat → List V → Prop) : It :=
  ⟨fun i H => i < n ∧ NowN K L ns H, fun i H v H' => ∃ T ws, v = .ref T ∧ H T = none ∧ H' = upd H T (.tup ws) ∧ ∀ vss, NowL K L vss H → Y vss i ws, fun i H => i = n ∧ NowN K L ns H⟩
/-- a walk of tuples, told anew at each turn -/
theorem turn_T {P : Program} {w : World} {K : PySem.W.Frag} {L : List (Bool × Addr)} {ns : List Nat} {n : Nat} {Y : List (List V) → Nat → List V → Prop} {elts : List Expr} {kk : Nat} {tpos : Pos} {I : Addr} {fp wr : List Addr} {St : Nat → Heap → Prop}
    (mI : I ∈ fp) (wf : ∀ b ∈ wr, b ∈ fp) (obj : ∀ i h, St i h → ∀ b ∈ fp, ∃ o, h.get? b = some o ∧ ∀ v, o.data ≠ .cell v) (keep : ∀ i h h', St i h → (∀ b ∈ fp, ∀ o, h.get? b = some o → h'.get? b = some o) → St i h')
    (self : ∀ (A : Around) (i : Nat) (s : Shared) (Q : Value → Shared → Prop) (E : Value → Shared → Prop), St i s.heap → Q (.ref I) s → wpAny (model P w) A (pyIter (.ref I)) Q E s)
    (data : ∀ (X : Cx), X.prog = P → X.w = w → X.K = K → X.calm = true → ∀ (pins : List (Addr × Obj)) (s : Shared) (σ : L2.St) (H : Hp), Inv X pins σ H s → ∀ vss, NowL K L vss H → vss.map List.length = ns → (∀ b ∈ fp, FpOk X pins H b) → ∀ i, St i s.heap →
      ∃ fp' Pv St' Md, WalksT P w X.A I fp' wr n Pv St' Md ∧ (∀ j h, St' j h → St j h) ∧ St' i s.heap ∧ ∀ vals, Pv i vals → ∃ ws, Vals ws vals.toList ∧ ws.length ≤ sizeLine ∧ Y vss i ws) :
    Turn P w K (.Tuple elts kk tpos) (ItT K L ns n Y) fp I St where
  mem := mI
  obj := obj
  keep := keep
  item := by
    intro X hP hw hK hc i pins s σ H E Iv hf st hg
    obtain ⟨hi, vss, now, hns⟩ := hg
    obtain ⟨fp', Pv, St', Md, W, h1, h2, h3⟩ := data X hP hw hK hc pins s σ H Iv vss now hns hf i st
    subst hP hw hK
    refine W.item i s _ _ hi h2 fun T vals h' tk hP hT hv hM hk => ⟨_, rfl, ?_⟩
    obtain ⟨ws, rv, hz, hY⟩ := h3 vals hP
    refine W.go _ _ _ i T { s with heap := h', toks := tk } _ _ hM fun h'' st'' hk2 => ?_
    have hT2 : T ∉ wr := W.apart i T h' hM
    obtain ⟨o, ho, hc', nn, hd⟩ := hv
    have hT3 : h''.get? T = some o := hk2 T o hT2 ho
    have hvals : vals = vals.toList.toArray := by simp
    have new : ObjOk X.prog X.w (upd H T (.tup ws)) h'' T (.tup ws) := ⟨hz, vals.toList, rv, ⟨o, hT3, hc', nn, by rw [← hvals]; exact hd⟩⟩
    have I1 : Inv X pins σ (upd H T (.tup ws)) { s with heap := h'', toks := tk } :=
      Iv.turnedNew (ch := fp) (fun b ob hb q => hk2 b ob (fun z => hb (wf b z)) (hk b ob (fun z => hb (wf b z)) q)) hf hT new
    refine ⟨.ref T, _, I1, rfl, ⟨T, ws, rfl, Iv.hok.fresh hT, rfl, fun uss hu => by rw [Inv.now_inj Iv L _ _ hu now]; exact hY⟩, h1 _ _ st'', fun b hb => ?_⟩
    have hb' : b ≠ T := fun z => by
      obtain ⟨ob, e, _⟩ := obj i s.heap st b hb
      have := Heap.lt_size e
      rw [z] at this
      exact absurd (Nat.lt_of_lt_of_le this hT) (Nat.lt_irrefl _)
    rw [upd_ne hb']
    exact (hf b hb).1
  done := by
    intro X hP hw hK hc i pins s σ H E Iv hf st hg
    obtain ⟨hi, vss, now, hns⟩ := hg
    obtain ⟨fp', Pv, St', Md, W, h1, h2, h3⟩ := data X hP hw hK hc pins s σ H Iv vss now hns hf i st
    subst hP hw hK hi
    refine W.done s _ _ h2 fun h' tk hk => ⟨rfl, ?_⟩
    exact Iv.turnedL (t' := tk) (ch := fp) (fun b ob hb q => hk b ob (fun z => hb (wf b z)) q) hf
  self := self
theorem arB_ne {b : Bool} {h : Heap} {a c : Addr} {its : Array Value} (x : ArB b h a its) (y : ∃ o fs, h.get? c = some o ∧ o.data = .fields fs) : a ≠ c := by
  obtain ⟨o, fs, e, d⟩ := y
  intro z
  subst z
  cases b with
  | true => obtain ⟨o', e', _, n, d'⟩ := x; rw [e] at e'; cases e'; rw [d] at d'; cases d'
  | false => obtain ⟨o', e', _, n, d'⟩ := x; rw [e] at e'; cases e'; rw [d] at d'; cases d'
theorem ItB.fields {b : Bool} {h : Heap} {it a : Addr} {i : Nat} (x : ItB b h it a i) : ∃ o fs, h.get? it = some o ∧ o.data = .fields fs := by
  cases b with
  | true => obtain ⟨o, e, _, d⟩ := x; exact ⟨o, _, e, d⟩
  | false => obtain ⟨o, e, _, d⟩ := x; exact ⟨o, _, e, d⟩
abbrev YE : List (List V) → Nat → List V → Prop := fun vss i ws => ∃ vs v, vss = [vs] ∧ vs[i]? = some v ∧ ws = [.int (i : Nat), v]
abbrev Y2 : List (List V) → Nat → List V → Prop := fun vss i ws => ∃ v1 v2 x y, vss = [v1, v2] ∧ v1[i]? = some x ∧ v2[i]? = some y ∧ ws = [x, y]
abbrev Y3 : List (List V) → Nat → List V → Prop := fun vss i ws => ∃ v1 v2 v3 x y t, vss = [v1, v2, v3] ∧ v1[i]? = some x ∧ v2[i]? = some y ∧ v3[i]? = some t ∧ ws = [x, y, t]
theorem turn_enumB {P : Program} {w : World} {K : PySem.W.Frag} {elts : List Expr} {kk : Nat} {tpos : Pos} (b : Bool) (a : Addr) (n : Nat) (e it : Addr) :
    Turn P w K (.Tuple elts kk tpos) (ItT K [(b, a)] [n] n YE) [e, it] e (fun i h => (∃ old, IsEnum h e it ((0 : Int) + (i : Nat)) old) ∧ ItB b h it a i ∧ e ≠ it) := by
  refine turn_T (wr := [e, it]) (by simp) (fun b hb => hb) (fun i h st c hc => ?_) (fun i h h' st k => ?_) (fun A i s Q E st h => wpAny_pyIter_enum st.1.choose_spec h) fun X hP hw hK hcalm pins s σ H Iv vss now hns fr i st => ?_
  · obtain ⟨⟨old, he⟩, hi, _⟩ := st
    have e' : c = e ∨ c = it := by simpa using hc
    rcases e' with z | z
    · rw [z]; exact ⟨_, he, fun v q => nomatch q⟩
    · rw [z]; exact hi.obj
  · obtain ⟨⟨old, he⟩, hi, hne⟩ := st
    exact ⟨⟨old, k e (by simp) _ he⟩, hi.at fun o q => k it (by simp) o q, hne⟩
  · obtain ⟨⟨old, he⟩, hi, hne⟩ := st
    subst hP hw hK
    match vss, now, hns with
    | [vs], now, hns =>
    have hns : vs.length = n := by simpa using hns
    obtain ⟨its, rv, ar, hz, _⟩ := Inv.ar Iv now.1
    have n1 : a ≠ it := arB_ne ar hi.fields
    have n2 : a ≠ e := arB_ne ar ⟨_, _, he, rfl⟩
    have D := drawsB (prog := X.prog) (w := X.w) (A := X.A.in1) (Iv.ok.hd hcalm) b it a n1 its.toArray
    have W := WalksT.enumFrom (0 : Int) D e hne (by simp [hne, Ne.symm n2]) (by simp)
    have hl : its.toArray.size = n := by rw [List.size_toArray, ← hns]; exact rv.length.symm
    rw [hl] at W
    refine ⟨_, _, _, _, W, fun j h ⟨h1, h2, _⟩ => ⟨h1, h2, hne⟩, ⟨⟨old, he⟩, hi, ar⟩, ?_⟩
    rintro vals ⟨t, x, hx, rfl⟩
    have hx' : its[i]? = some x := by simpa using hx
    obtain ⟨v, h1, h2⟩ : ∃ v, vs[i]? = some v ∧ RelV v x := by
      have hi' : i < vs.length := by rw [rv.length]; exact (List.getElem?_eq_some_iff.mp hx').1
      obtain ⟨u, h3, h4⟩ := rv.get (List.getElem?_eq_getElem hi')
      rw [hx'] at h3; cases h3
      exact ⟨_, List.getElem?_eq_getElem hi', h4⟩
    refine ⟨[.int (i : Nat), v], .cons ⟨t, by rw [Int.zero_add]⟩ (.cons h2 .nil), by show 2 ≤ sizeLine; decide, vs, v, rfl, h1, rfl⟩
theorem vals_back {vs : List V} {its : List Value} (rv : Vals vs its) {i : Nat} {x : Value} (hx : its.toArray[i]? = some x) : ∃ v, vs[i]? = some v ∧ RelV v x := by
  have hx' : its[i]? = some x := by simpa using hx
  have hi' : i < vs.length := by rw [rv.length]; exact (List.getElem?_eq_some_iff.mp hx').1
  obtain ⟨u, h3, h4⟩ := rv.get (List.getElem?_eq_getElem hi')
  rw [hx'] at h3; cases h3
  exact ⟨_, List.getElem?_eq_getElem hi', h4⟩
theorem tup2_ne {h : Heap} {T c : Addr} {x y : Value} (t : IsTupOf2 h T x y) (f : ∃ o fs, h.get? c = some o ∧ o.data = .fields fs) : T ≠ c := by
  obtain ⟨o, fs, e, d⟩ := f
  intro z
  subst z
  have t' : h.get? T = some _ := t
  rw [e] at t'
  cases t'
  cases d
theorem Inv.src_ne {X : Cx} {pins : List (Addr × Obj)} {σ : L2.St} {H : Hp} {s : Shared} {b : Bool} {a c : Addr} {vs : List V} (I : Inv X pins σ H s) (h : SqB X.K b H a vs) (hn : H c = none) (hc : ∀ o, X.base.get? c ≠ some o) : a ≠ c := by
  intro z
  subst z
  have key : ∀ {u : HO}, L2.Rd H a u → False := fun {u} r => by
    rcases r with r | ⟨o, r⟩ <;> (rw [hn] at r; cases r)
  cases b with
  | true =>
    rcases h with h | ⟨o, its, n, h1, _⟩
    · exact key h
    · exact hc o (I.ok.mod.kin a o h1)
  | false =>
    rcases h with h | ⟨o, its, n, h1, _⟩
    · exact key h
    · exact hc o (I.ok.mod.kin a o h1)

theorem fp_base {X : Cx} {pins : List (Addr × Obj)} {σ : L2.St} {H : Hp} {s : Shared} {c : Addr} (I : Inv X pins σ H s) (f : FpOk X pins H c) : ∀ o, X.base.get? c ≠ some o := fun o e => by
  rcases f.2.2.2.1 with z | z
  · exact I.ok.noex c o e z
  · exact absurd (Nat.lt_of_lt_of_le (Heap.lt_size (I.ok.bs c o e).1) z) (Nat.lt_irrefl _)
/-- how the parts of a zip lie -/
def Zs (i1 i2 z TI TO : Addr) : Prop := TI ≠ z ∧ TO ≠ z ∧ TI ≠ TO ∧ TI ≠ i1 ∧ TI ≠ i2 ∧ z ≠ i1 ∧ z ≠ i2 ∧ TO ≠ i1 ∧ TO ≠ i2 ∧ i1 ≠ i2
theorem turn_zipB {P : Program} {w : World} {K : PySem.W.Frag} {elts : List Expr} {kk : Nat} {tpos : Pos} (b1 b2 : Bool) (a1 a2 : Addr) (n1 n2 : Nat) (z TI TO i1 i2 : Addr) (S : Zs i1 i2 z TI TO) :
    Turn P w K (.Tuple elts kk tpos) (ItT K [(b1, a1), (b2, a2)] [n1, n2] (min n1 n2) Y2) [z, TI, TO, i1, i2] z
      (fun i h => IsZip h z TI TO .none ∧ IsTupOf2 h TI (.ref i1) (.ref i2) ∧ (∃ x y, IsTupOf2 h TO x y) ∧ ItB b1 h i1 a1 i ∧ ItB b2 h i2 a2 i) := by
  obtain ⟨s1, s2, s3, s4, s5, s6, s7, s8, s9, s10⟩ := S
  refine turn_T (wr := [z, TO, i1, i2]) (by simp) (fun c hc => ?_) (fun i h st c hc => ?_) (fun i h h' st k => ?_) (fun A i s Q E st h => wpAny_pyIter_zip st.1 h) fun X hP hw hK hcalm pins s σ H Iv vss now hns fr i st => ?_
  · have e' : c = z ∨ c = TO ∨ c = i1 ∨ c = i2 := by simpa using hc
    rcases e' with q | q | q | q <;> simp [q]
  · obtain ⟨hz, hTI, ⟨x, y, hTO⟩, h1, h2⟩ := st
    have e' : c = z ∨ c = TI ∨ c = TO ∨ c = i1 ∨ c = i2 := by simpa using hc
    rcases e' with q | q | q | q | q
    · rw [q]; exact ⟨_, hz, fun v q => nomatch q⟩
    · rw [q]; exact ⟨_, hTI, fun v q => nomatch q⟩
    · rw [q]; exact ⟨_, hTO, fun v q => nomatch q⟩
    · rw [q]; exact h1.obj
    · rw [q]; exact h2.obj
  · obtain ⟨hz, hTI, ⟨x, y, hTO⟩, h1, h2⟩ := st
    exact ⟨k z (by simp) _ hz, k TI (by simp) _ hTI, ⟨x, y, k TO (by simp) _ hTO⟩, h1.at fun o q => k i1 (by simp) o q, h2.at fun o q => k i2 (by simp) o q⟩
  · obtain ⟨hz, hTI, hTO, h1, h2⟩ := st
    subst hP hw hK
    match vss, now, hns with
    | [v1, v2], now, hns =>
    have hns : v1.length = n1 ∧ v2.length = n2 := by simpa using hns
    obtain ⟨nw1, nw2, _⟩ := now
    obtain ⟨its1, rv1, ar1, _, _⟩ := Inv.ar Iv nw1
    obtain ⟨its2, rv2, ar2, _, _⟩ := Inv.ar Iv nw2
    have ne1 : ∀ c ∈ [z, TI, TO, i1, i2], a1 ≠ c := fun c hc => Inv.src_ne Iv nw1 (fr c hc).1 (fp_base Iv (fr c hc))
    have ne2 : ∀ c ∈ [z, TI, TO, i1, i2], a2 ≠ c := fun c hc => Inv.src_ne Iv nw2 (fr c hc).1 (fp_base Iv (fr c hc))
    have D1 := drawsB (prog := X.prog) (w := X.w) (A := X.A.in1) (Iv.ok.hd hcalm) b1 i1 a1 (ne1 i1 (by simp)) its1.toArray
    have D2 := drawsB (prog := X.prog) (w := X.w) (A := X.A.in1) (Iv.ok.hd hcalm) b2 i2 a2 (ne2 i2 (by simp)) its2.toArray
    have S : ZipSep2 z TI TO i1 i2 [i1, a1] [i2, a2] := ⟨s1, s2, s3, s4, by simp, by simp [s6, Ne.symm (ne1 z (by simp))], by simp [s8, Ne.symm (ne1 TO (by simp))], s5, by simp, by simp [s7, Ne.symm (ne2 z (by simp))],
      by simp [s9, Ne.symm (ne2 TO (by simp))], by simp [s10, Ne.symm (ne2 i1 (by simp))], by simp [Ne.symm s10, Ne.symm (ne1 i2 (by simp))]⟩
    have W := WalksT.zipD2 S D1 D2
    have hl1 : its1.toArray.size = n1 := by rw [List.size_toArray, ← hns.1]; exact rv1.length.symm
    have hl2 : its2.toArray.size = n2 := by rw [List.size_toArray, ← hns.2]; exact rv2.length.symm
    rw [hl1, hl2] at W
    refine ⟨_, _, _, _, W, fun j h ⟨q1, q2, q3, q4, q5⟩ => ⟨q1, q2, q3, q4.1, q5.1⟩, ⟨hz, hTI, hTO, ⟨h1, ar1⟩, ⟨h2, ar2⟩⟩, ?_⟩
    rintro vals ⟨x, y, hx, hy, rfl⟩
    obtain ⟨u1, e1, r1⟩ := vals_back rv1 hx
    obtain ⟨u2, e2, r2⟩ := vals_back rv2 hy
    exact ⟨[u1, u2], .cons r1 (.cons r2 .nil), by show 2 ≤ sizeLine; decide, v1, v2, u1, u2, rfl, e1, e2, rfl⟩
def Zs3 (i1 i2 i3 z TI TO : Addr) : Prop := Zs i1 i2 z TI TO ∧ TI ≠ i3 ∧ z ≠ i3 ∧ TO ≠ i3 ∧ i1 ≠ i3 ∧ i2 ≠ i3
theorem turn_zipB3 {P : Program} {w : World} {K : PySem.W.Frag} {elts : List Expr} {kk : Nat} {tpos : Pos} (b1 b2 b3 : Bool) (a1 a2 a3 : Addr) (n1 n2 n3 : Nat) (z TI TO i1 i2 i3 : Addr) (S : Zs3 i1 i2 i3 z TI TO) :
    Turn P w K (.Tuple elts kk tpos) (ItT K [(b1, a1), (b2, a2), (b3, a3)] [n1, n2, n3] (min (min n1 n2) n3) Y3) [z, TI, TO, i1, i2, i3] z
      (fun i h => IsZip h z TI TO .none ∧ IsTupOf3 h TI (.ref i1) (.ref i2) (.ref i3) ∧ (∃ x y t, IsTupOf3 h TO x y t) ∧ ItB b1 h i1 a1 i ∧ ItB b2 h i2 a2 i ∧ ItB b3 h i3 a3 i) := by
  obtain ⟨⟨s1, s2, s3, s4, s5, s6, s7, s8, s9, s10⟩, t1, t2, t3, t4, t5⟩ := S
  refine turn_T (wr := [z, TO, i1, i2, i3]) (by simp) (fun c hc => ?_) (fun i h st c hc => ?_) (fun i h h' st k => ?_) (fun A i s Q E st h => wpAny_pyIter_zip st.1 h) fun X hP hw hK hcalm pins s σ H Iv vss now hns fr i st => ?_
  · have e' : c = z ∨ c = TO ∨ c = i1 ∨ c = i2 ∨ c = i3 := by simpa using hc
    rcases e' with q | q | q | q | q <;> simp [q]
  · obtain ⟨hz, hTI, ⟨x, y, t, hTO⟩, h1, h2, h3⟩ := st
    have e' : c = z ∨ c = TI ∨ c = TO ∨ c = i1 ∨ c = i2 ∨ c = i3 := by simpa using hc
    rcases e' with q | q | q | q | q | q
    · rw [q]; exact ⟨_, hz, fun v q => nomatch q⟩
    · rw [q]; exact ⟨_, hTI, fun v q => nomatch q⟩
    · rw [q]; exact ⟨_, hTO, fun v q => nomatch q⟩
    · rw [q]; exact h1.obj
    · rw [q]; exact h2.obj
    · rw [q]; exact h3.obj
  · obtain ⟨hz, hTI, ⟨x, y, t, hTO⟩, h1, h2, h3⟩ := st
    exact ⟨k z (by simp) _ hz, k TI (by simp) _ hTI, ⟨x, y, t, k TO (by simp) _ hTO⟩, h1.at fun o q => k i1 (by simp) o q, h2.at fun o q => k i2 (by simp) o q, h3.at fun o q => k i3 (by simp) o q⟩
  · obtain ⟨hz, hTI, hTO, h1, h2, h3⟩ := st
    subst hP hw hK
    match vss, now, hns with
    | [v1, v2, v3], now, hns =>
    have hns : v1.length = n1 ∧ v2.length = n2 ∧ v3.length = n3 := by simpa using hns
    obtain ⟨nw1, nw2, nw3, _⟩ := now
    obtain ⟨its1, rv1, ar1, _, _⟩ := Inv.ar Iv nw1
    obtain ⟨its2, rv2, ar2, _, _⟩ := Inv.ar Iv nw2
    obtain ⟨its3, rv3, ar3, _, _⟩ := Inv.ar Iv nw3
    have ne1 : ∀ c ∈ [z, TI, TO, i1, i2, i3], a1 ≠ c := fun c hc => Inv.src_ne Iv nw1 (fr c hc).1 (fp_base Iv (fr c hc))
    have ne2 : ∀ c ∈ [z, TI, TO, i1, i2, i3], a2 ≠ c := fun c hc => Inv.src_ne Iv nw2 (fr c hc).1 (fp_base Iv (fr c hc))
    have ne3 : ∀ c ∈ [z, TI, TO, i1, i2, i3], a3 ≠ c := fun c hc => Inv.src_ne Iv nw3 (fr c hc).1 (fp_base Iv (fr c hc))
    have D1 := drawsB (prog := X.prog) (w := X.w) (A := X.A.in1) (Iv.ok.hd hcalm) b1 i1 a1 (ne1 i1 (by simp)) its1.toArray
    have D2 := drawsB (prog := X.prog) (w := X.w) (A := X.A.in1) (Iv.ok.hd hcalm) b2 i2 a2 (ne2 i2 (by simp)) its2.toArray
    have D3 := drawsB (prog := X.prog) (w := X.w) (A := X.A.in1) (Iv.ok.hd hcalm) b3 i3 a3 (ne3 i3 (by simp)) its3.toArray
    have S : ZipSep3 z TI TO i1 i2 i3 [i1, a1] [i2, a2] [i3, a3] := {
      TIz := s1, TOz := s2, TITO := s3
      TIi1 := s4, mem1 := by simp, zf1 := by simp [s6, Ne.symm (ne1 z (by simp))], Tf1 := by simp [s8, Ne.symm (ne1 TO (by simp))]
      TIi2 := s5, mem2 := by simp, zf2 := by simp [s7, Ne.symm (ne2 z (by simp))], Tf2 := by simp [s9, Ne.symm (ne2 TO (by simp))]
      TIi3 := t1, mem3 := by simp, zf3 := by simp [t2, Ne.symm (ne3 z (by simp))], Tf3 := by simp [t3, Ne.symm (ne3 TO (by simp))]
      sep1_2 := by simp [s10, Ne.symm (ne2 i1 (by simp))], sep1_3 := by simp [t4, Ne.symm (ne3 i1 (by simp))]
      sep2_1 := by simp [Ne.symm s10, Ne.symm (ne1 i2 (by simp))], sep2_3 := by simp [t5, Ne.symm (ne3 i2 (by simp))]
      sep3_1 := by simp [Ne.symm t4, Ne.symm (ne1 i3 (by simp))], sep3_2 := by simp [Ne.symm t5, Ne.symm (ne2 i3 (by simp))] }
    have W := WalksT.zipD3 S D1 D2 D3
    have hl1 : its1.toArray.size = n1 := by rw [List.size_toArray, ← hns.1]; exact rv1.length.symm
    have hl2 : its2.toArray.size = n2 := by rw [List.size_toArray, ← hns.2.1]; exact rv2.length.symm
    have hl3 : its3.toArray.size = n3 := by rw [List.size_toArray, ← hns.2.2]; exact rv3.length.symm
    rw [hl1, hl2, hl3] at W
    refine ⟨_, _, _, _, W, fun j h ⟨q1, q2, q3, q4, q5, q6⟩ => ⟨q1, q2, q3, q4.1, q5.1, q6.1⟩, ⟨hz, hTI, hTO, ⟨h1, ar1⟩, ⟨h2, ar2⟩, ⟨h3, ar3⟩⟩, ?_⟩
    rintro vals ⟨x, y, t, hx, hy, ht, rfl⟩
    obtain ⟨u1, e1, r1⟩ := vals_back rv1 hx
    obtain ⟨u2, e2, r2⟩ := vals_back rv2 hy
    obtain ⟨u3, e3, r3⟩ := vals_back rv3 ht
    exact ⟨[u1, u2, u3], .cons r1 (.cons r2 (.cons r3 .nil)), by show 3 ≤ sizeLine; decide, v1, v2, v3, u1, u2, u3, rfl, e1, e2, e3, rfl⟩

/-! ### how they begin -/
section
variable {X : Cx}
def iEnumB (K : PySem.W.Frag) (ta : TA) : TI := fun σ H R => ta σ H fun vs H1 => ∃ b a xs, vs = [.ref a] ∧ SqB K b H1 a xs ∧ (xs.length ≤ sizeLine → R (ItT K [(b, a)] [xs.length] xs.length YE) H1)
theorem pi_enumB {e : Expr} {ta : TA} {p pos tpos : Pos} {elts : List Expr} {kk : Nat} (hg : Gl X "enumerate") (hm : X.mg "enumerate" = none) (ha : PA X [e] ta) (hs : starEach [e] X.env = [(false, eval e X.env)] := by rfl) :
    PI X (.Tuple elts kk tpos) (.Call (.Name "enumerate" p) [e] [] pos) (iEnumB X.K ta) := by
  refine ⟨fun pins s σ H R I h => ?_⟩
  refine Call_ (ld_blt I hg hm boot_enumerate (PyProof.Rows.callWith_type1 (thn (ha.run pos pins s σ H _ I h) fun us s1 ⟨vs, H1, I1, r1, q1⟩ => ?_) hs rfl))
  obtain ⟨b, a, xs, ex, hq, q⟩ := q1
  subst ex
  cases r1 with
  | cons r rr =>
    cases rr
    cases r
    obtain ⟨its, rv, ar, hz, _⟩ := Inv.ar I1 hq
    refine enum_begins1 (beginsB b a its.toArray) ar fun h' he hit hsz hk => wpAny_pyIter_enum he ?_
    have I2 : Inv X pins σ H1 { s1 with heap := h' } := I1.kept (t' := s1.toks) hk
    refine ⟨s1.heap.objs.size + 1, [s1.heap.objs.size + 1, s1.heap.objs.size], _, _, H1, rfl, I2, turn_enumB b a xs.length (s1.heap.objs.size + 1) s1.heap.objs.size, ⟨⟨.none, by simpa using he⟩, itB_new hit, Nat.succ_ne_self _⟩, fun c hc => ?_, q hz⟩
    have hle : s1.heap.objs.size ≤ c := by
      have e' : c = s1.heap.objs.size + 1 ∨ c = s1.heap.objs.size := by simpa using hc
      rcases e' with z | z
      · rw [z]; exact Nat.le_add_right _ _
      · rw [z]; exact Nat.le_refl _
    exact I1.fpOk hle (I1.hok.fresh hle)
def iZipB (K : PySem.W.Frag) (ta : TA) : TI := fun σ H R => ta σ H fun vs H1 => ∃ b1 b2 a1 a2 xs ys, vs = [.ref a1, .ref a2] ∧ SqB K b1 H1 a1 xs ∧ SqB K b2 H1 a2 ys ∧
  (xs.length ≤ sizeLine → R (ItT K [(b1, a1), (b2, a2)] [xs.length, ys.length] (min xs.length ys.length) Y2) H1)
theorem zs_new (N : Nat) : Zs N (N + 1) (N + 4) (N + 2) (N + 3) := by
  refine ⟨?_, ?_, ?_, ?_, ?_, ?_, ?_, ?_, ?_, ?_⟩ <;> (intro h; have h' : (_ : Nat) = _ := h; omega)
theorem zs3_new (N : Nat) : Zs3 N (N + 1) (N + 2) (N + 5) (N + 3) (N + 4) := by
  refine ⟨⟨?_, ?_, ?_, ?_, ?_, ?_, ?_, ?_, ?_, ?_⟩, ?_, ?_, ?_, ?_, ?_⟩ <;> (intro h; have h' : (_ : Nat) = _ := h; omega)
theorem pi_zipB {e e2 : Expr} {ta : TA} {p pos tpos : Pos} {elts : List Expr} {kk : Nat} (hg : Gl X "zip") (hm : X.mg "zip" = none) (ha : PA X [e, e2] ta)
    (hs : starEach [e, e2] X.env = (false, eval e X.env) :: starEach [e2] X.env := by rfl) (hpl : (backTo pos (starEach [e2] X.env)).any (·.1) = false := by rfl) :
    PI X (.Tuple elts kk tpos) (.Call (.Name "zip" p) [e, e2] [] pos) (iZipB X.K ta) := by
  refine ⟨fun pins s σ H R I h => ?_⟩
  refine Call_ (ld_blt I hg hm PyProof.Rows.boot_zip (PyProof.Rows.callWith_type1 (thn (ha.run pos pins s σ H _ I h) fun us s1 ⟨vs, H1, I1, r1, q1⟩ => ?_) hs hpl))
  obtain ⟨b1, b2, a, b, xs, ys, ex, hqx, hqy, q⟩ := q1
  subst ex
  cases r1 with
  | cons r rr =>
    cases rr with
    | cons r' rr =>
      cases rr
      cases r
      cases r'
      obtain ⟨its1, rv1, ar1, hzx, _⟩ := Inv.ar I1 hqx
      obtain ⟨its2, rv2, ar2, _, _⟩ := Inv.ar I1 hqy
      refine zip_begins2 (beginsB b1 a its1.toArray) (beginsB b2 b its2.toArray) ar1 ar2 fun h' hz hTI hTO h1 h2 hsz hk => wpAny_pyIter_zip hz ?_
      have I2 : Inv X pins σ H1 { s1 with heap := h' } := I1.kept (t' := s1.toks) hk
      refine ⟨s1.heap.objs.size + 4, [s1.heap.objs.size + 4, s1.heap.objs.size + 2, s1.heap.objs.size + 3, s1.heap.objs.size, s1.heap.objs.size + 1], _, _, H1, rfl, I2, turn_zipB b1 b2 a b xs.length ys.length _ _ _ _ _ (zs_new _), ⟨hz, hTI, ⟨_, _, hTO⟩, itB_new h1, itB_new h2⟩, fun c hcm => ?_, q hzx⟩
      have e' : c = s1.heap.objs.size + 4 ∨ c = s1.heap.objs.size + 2 ∨ c = s1.heap.objs.size + 3 ∨ c = s1.heap.objs.size ∨ c = s1.heap.objs.size + 1 := by simpa using hcm
      have hle : s1.heap.objs.size ≤ c := by
        rcases e' with z | z | z | z | z <;> (rw [z]; first | exact Nat.le_refl _ | exact Nat.le_add_right _ _)
      exact I1.fpOk hle (I1.hok.fresh hle)
def iZipB3 (K : PySem.W.Frag) (ta : TA) : TI := fun σ H R => ta σ H fun vs H1 => ∃ b1 b2 b3 a1 a2 a3 xs ys zs, vs = [.ref a1, .ref a2, .ref a3] ∧ SqB K b1 H1 a1 xs ∧ SqB K b2 H1 a2 ys ∧ SqB K b3 H1 a3 zs ∧
  (xs.length ≤ sizeLine → R (ItT K [(b1, a1), (b2, a2), (b3, a3)] [xs.length, ys.length, zs.length] (min (min xs.length ys.length) zs.length) Y3) H1)
theorem pi_zipB3 {e e2 e3 : Expr} {ta : TA} {p pos tpos : Pos} {elts : List Expr} {kk : Nat} (hg : Gl X "zip") (hm : X.mg "zip" = none) (ha : PA X [e, e2, e3] ta)
    (hs : starEach [e, e2, e3] X.env = (false, eval e X.env) :: starEach [e2, e3] X.env := by rfl) (hpl : (backTo pos (starEach [e2, e3] X.env)).any (·.1) = false := by rfl) :
    PI X (.Tuple elts kk tpos) (.Call (.Name "zip" p) [e, e2, e3] [] pos) (iZipB3 X.K ta) := by
  refine ⟨fun pins s σ H R I h => ?_⟩
  refine Call_ (ld_blt I hg hm PyProof.Rows.boot_zip (PyProof.Rows.callWith_type1 (thn (ha.run pos pins s σ H _ I h) fun us s1 ⟨vs, H1, I1, r1, q1⟩ => ?_) hs hpl))
  obtain ⟨b1, b2, b3, a, b, c, xs, ys, zs, ex, hqx, hqy, hqz, q⟩ := q1
  subst ex
  cases r1 with
  | cons r rr =>
    cases rr with
    | cons r' rr =>
      cases rr with
      | cons r'' rr =>
        cases rr
        cases r
        cases r'
        cases r''
        obtain ⟨its1, rv1, ar1, hzx, _⟩ := Inv.ar I1 hqx
        obtain ⟨its2, rv2, ar2, _, _⟩ := Inv.ar I1 hqy
        obtain ⟨its3, rv3, ar3, _, _⟩ := Inv.ar I1 hqz
        refine zip_begins3 (beginsB b1 a its1.toArray) (beginsB b2 b its2.toArray) (beginsB b3 c its3.toArray) ar1 ar2 ar3 fun h' hz hTI hTO h1 h2 h3 hsz hk => wpAny_pyIter_zip hz ?_
        have I2 : Inv X pins σ H1 { s1 with heap := h' } := I1.kept (t' := s1.toks) hk
        refine ⟨s1.heap.objs.size + 5, [s1.heap.objs.size + 5, s1.heap.objs.size + 3, s1.heap.objs.size + 4, s1.heap.objs.size, s1.heap.objs.size + 1, s1.heap.objs.size + 2], _, _, H1, rfl, I2, turn_zipB3 b1 b2 b3 a b c xs.length ys.length zs.length _ _ _ _ _ _ (zs3_new _), ⟨hz, hTI, ⟨_, _, _, hTO⟩, itB_new h1, itB_new h2, itB_new h3⟩, fun c hcm => ?_, q hzx⟩
        have e' : c = s1.heap.objs.size + 5 ∨ c = s1.heap.objs.size + 3 ∨ c = s1.heap.objs.size + 4 ∨ c = s1.heap.objs.size ∨ c = s1.heap.objs.size + 1 ∨ c = s1.heap.objs.size + 2 := by simpa using hcm
        have hle : s1.heap.objs.size ≤ c := by
          rcases e' with z | z | z | z | z | z <;> (rw [z]; first | exact Nat.le_refl _ | exact Nat.le_add_right _ _)
        exact I1.fpOk hle (I1.hok.fresh hle)
end
end SC

set_option Elab.async false
set_option linter.all false
set_option maxRecDepth 100000
set_option maxHeartbeats 2000000
/-! SC5: targets, what is walked, comprehensions. -/
namespace SC
open PySem PySem.Spec PyProof.Rows L2

/-! ### targets -/
/-- the slots at is are set, nothing else -/
def SetAt (is : List Nat) (σ σ' : L2.St) : Prop := σ'.length = σ.length ∧ ∀ j, j ∉ is → σ'[j]? = σ[j]?
def tSG (K : PySem.W.Frag) (is : List Nat) : TG := fun v σ H Q => ∃ m hb δ μ d δ', Rel K m hb H μ ∧ Slots K m hb H δ σ ∧ Rdv K m hb v d ∧ bindT is d δ = some δ' ∧ ∀ σ', Slots K m hb H δ' σ' → SetAt is σ σ' → Q σ' H
def SG (X : Cx) (tg : Expr) (is : List Nat) : Prop := PG X tg (tSG X.K is)
def tSGs (K : PySem.W.Frag) (is : List Nat) : TGs := fun vs σ H Q => ∃ m hb δ μ ds δ', Rel K m hb H μ ∧ Slots K m hb H δ σ ∧ RdAll K m hb vs ds ∧ bindAll is ds δ = some δ' ∧ ∀ σ', Slots K m hb H δ' σ' → SetAt is σ σ' → Q σ' H
theorem PG.mono {X : Cx} {e : Expr} {t t' : TG} (h : PG X e t) (i : ∀ v σ H Q, t' v σ H Q → t v σ H Q) : PG X e t' := ⟨fun pins s σ H v u Q I r q => h.run pins s σ H v u Q I r (i _ _ _ _ q)⟩
theorem PGs.mono {X : Cx} {e : List Expr} {t t' : TGs} (h : PGs X e t) (i : ∀ v σ H Q, t' v σ H Q → t v σ H Q) : PGs X e t' := ⟨fun pins s σ H v u Q I r q => h.run pins s σ H v u Q I r (i _ _ _ _ q)⟩
theorem SetAt.set {i : Nat} {σ : L2.St} {v : Option V} : SetAt [i] σ (σ.set i v) := ⟨by simp, fun j hj => List.getElem?_set_ne (Ne.symm (by simpa using hj))⟩
section
variable {X : Cx} {pos : Pos}
theorem sg_name {i : Nat} {x : Str} (hN : X.N.Nodup) (hi : X.N[i]? = some x := by rfl) (hx : Loc X.env.scope x := by first | exact Or.inl rfl | exact Or.inr rfl) (hf : X.fn x = true ∨ X.env.scope.names.lookup x = some .local := by first | exact .inl rfl | exact .inr rfl) : SG X (.Name x pos) [i] :=
  PG.mono (pg_name hN hi hx hf) fun v σ H Q ⟨m, hb, δ, μ, d, δ', r, s, rd, e, q⟩ => by
    cases e
    exact q _ (s.set rd) .set
theorem sgs_nil : PGs X [] (tSGs X.K []) := PGs.mono pgs_nil fun v σ H Q ⟨m, hb, δ, μ, d, δ', r, s, rd, e, q⟩ => by
  cases d with
  | nil =>
    cases rd; cases e
    exact ⟨rfl, q σ s ⟨rfl, fun _ _ => rfl⟩⟩
  | cons _ _ => cases e
theorem sgs_cons {i : Nat} {is : List Nat} {x : Str} {p : Pos} {es : List Expr} (hN : X.N.Nodup) (hr : PGs X es (tSGs X.K is)) (hi : X.N[i]? = some x := by rfl) (hx : Loc X.env.scope x := by first | exact Or.inl rfl | exact Or.inr rfl)
    (hf : X.fn x = true ∨ X.env.scope.names.lookup x = some .local := by first | exact .inl rfl | exact .inr rfl) (hs : (assignEach (.Name x p :: es) X.env).map (·.2) = assign (.Name x p) X.env :: (assignEach es X.env).map (·.2) := by rfl) : PGs X (.Name x p :: es) (tSGs X.K (i :: is)) :=
  PGs.mono (pgs_cons (pg_name hN hi hx hf) hr hs) fun v σ H Q ⟨m, hb, δ, μ, d, δ', r, s, rd, e, q⟩ => by
    cases d with
    | nil => cases e
    | cons d ds =>
      cases rd with
      | cons rd rds =>
        refine ⟨_, _, rfl, m, hb, _, μ, ds, δ', r, s.set rd, rds, e, fun σ' s' a => q σ' s' ⟨by rw [a.1]; simp, fun j hj => ?_⟩⟩
        simp only [List.mem_cons, not_or] at hj
        rw [a.2 j hj.2, List.getElem?_set_ne (Ne.symm hj.1)]
theorem sg_tup {is : List Nat} {es : List Expr} {k : Nat} (hc : X.calm = true) (h : PGs X es (tSGs X.K is)) (h2 : 2 ≤ is.length := by decide) (hn : (assignEach es X.env).length = is.length := by rfl) (hst : (assignEach es X.env).findIdx? (·.1) = none := by rfl) : SG X (.Tuple es k pos) is :=
  PG.mono (pg_tup hc h hn hst) fun v σ H Q ⟨m, hb, δ, μ, d, δ', r, s, rd, e, q⟩ => by
    have e2 : ∃ xs, d = .tup xs ∧ bindAll is xs δ = some δ' := by
      clear q rd
      match is, h2, d, e with
      | i :: j :: is, _, .tup xs, e => exact ⟨xs, rfl, e⟩
    clear e
    obtain ⟨xs, rfl, e⟩ := e2
    cases rd with
    | tup h1 h3 =>
      have hl : xs.length = is.length := by
        have key : ∀ (is : List Nat) (xs : List D) (δ : SC.Env), bindAll is xs δ = some δ' → xs.length = is.length := by
          intro is
          induction is with
          | nil => intro xs δ e; cases xs with | nil => rfl | cons _ _ => cases e
          | cons i is ih => intro xs δ e; cases xs with | nil => cases e | cons x xs => rw [List.length_cons, List.length_cons, ih xs _ e]
        exact key is xs δ e
      exact ⟨_, _, rfl, sqT_up r h1, by rw [h3.length]; exact hl, m, hb, δ, μ, xs, δ', r, s, h3, e, q⟩
end

/-! ### what is walked -/
/-- it goes through xs, while g holds -/
structure SrcOk (K : PySem.W.Frag) (J : It) (g : Gd) (xs : List D) (m : List Addr) (hb : Hp) : Prop where
  len : xs.length ≤ sizeLine
  goes : ∀ m' hb' H' μ' (i : Nat), Wk m hb m' hb' → Rel K m' hb' H' μ' → gOk g μ' = true → i < xs.length → J.go i H'
  stops : ∀ m' hb' H' μ', Wk m hb m' hb' → Rel K m' hb' H' μ' → gOk g μ' = true → J.stop xs.length H'
  yields : ∀ m' hb' H' μ' (i : Nat) x H'', Wk m hb m' hb' → Rel K m' hb' H' μ' → gOk g μ' = true → i < xs.length → J.yld i H' x H'' →
    ∃ d hb'', xs[i]? = some d ∧ Step m' hb' H' m' hb'' H'' ∧ Rel K m' hb'' H'' μ' ∧ Rdv K m' hb'' x d
def EvI (K : PySem.W.Frag) (E : XK) (kd : IK) (r : Res (D × Store)) (m : List Addr) (hb H : Hp) (R : It → Hp → Prop) : Prop := match r with
  | .ok (d, μ') => ∃ g xs, pSrc kd μ' (packOf d) = some (g, xs) ∧ ∀ J m' hb' H', Step m hb H m' hb' H' → Rel K m' hb' H' μ' → SrcOk K J g xs m' hb' → R J H'
  | .exc c p μ' => ∀ m' hb' H', Step m hb H m' hb' H' → Rel K m' hb' H' μ' → exW K E c p H'
  | .bad => False
def tSI (K : PySem.W.Frag) (E : XK) (Φ : Fn) (kd : IK) (A : SC.E) : TI := fun σ H R => ∃ m hb δ μ, Rel K m hb H μ ∧ Slots K m hb H δ σ ∧ EvI K E kd (evalE Φ A δ μ) m hb H R
def SI (X : Cx) (E : XK) (Φ : Fn) (tg e : Expr) (kd : IK) (A : SC.E) : Prop := PI X tg e (tSI X.K E Φ kd A)
theorem PI.mono {X : Cx} {tg e : Expr} {t t' : TI} (h : PI X tg e t) (i : ∀ σ H R, t' σ H R → t σ H R) : PI X tg e t' := ⟨fun pins s σ H R I q => h.run pins s σ H R I (i _ _ _ q)⟩
theorem gOk_app {g g' : Gd} {μ : Store} (h : gOk (g ++ g') μ = true) : gOk g μ = true ∧ gOk g' μ = true := by
  unfold gOk at h ⊢
  rw [List.all_append] at h
  exact Bool.and_eq_true_iff.mp h
/-- a sequence that is told, at a later time -/
theorem src_now {K : PySem.W.Frag} {m : List Addr} {hb H : Hp} {μ : Store} {v : V} {x : D} {xs : List D} (r : Rel K m hb H μ) (rd : Rdv K m hb v x) (e : seqOf μ x = some xs) :
    ∃ b a vs, v = .ref a ∧ vs.length = xs.length ∧ SqB K b H a vs ∧ RdAll K m hb vs xs ∧ (∀ m' hb' H' μ', Wk m hb m' hb' → Rel K m' hb' H' μ' → gOk (gd μ x) μ' = true →
      ∃ ws, SqB K b H' a ws ∧ ws.length = xs.length ∧ RdAll K m' hb' ws xs) := by
  cases rd with
  | tup h t =>
    cases e
    exact ⟨false, _, _, rfl, t.length, sqT_up r h, t, fun m' hb' H' μ' s r' _ => ⟨_, sqT_up r' (sqT_sub s.sub h), t.length, t.mono s.pre s.sub⟩⟩
  | lst h t =>
    cases e
    exact ⟨true, _, _, rfl, t.length, .inl (rd_up r h), t, fun m' hb' H' μ' s r' _ => ⟨_, .inl (rd_up r' (rd_sub s.sub h)), t.length, t.mono s.pre s.sub⟩⟩
  | @ref k a0 h =>
    have e : μ[k]? = some xs := e
    obtain ⟨a, vs, h1, h2, h3⟩ := r.at e
    rw [h] at h1; cases h1
    refine ⟨true, _, vs, rfl, h3.length, .inl (.inl h2), h3, fun m' hb' H' μ' s r' g => ?_⟩
    have g2 : μ'[k]? = some xs := by
      have := (List.all_eq_true.mp g) (k, ((μ[k]?).getD [])) (by simp [gd])
      simp only [e, Option.getD_some, decide_eq_true_eq] at this
      exact this
    obtain ⟨a', ws, h4, h5, h6⟩ := r'.at g2
    rw [s.pre _ _ h] at h4; cases h4
    exact ⟨ws, .inl (.inl h5), h6.length, h6⟩
  | _ => cases e

section
variable {X : Cx} {Ex : XK} {Φ : Fn} {a b c : Expr} {A B C : SC.E} {pos p : Pos} {tg : Expr}
def itSeq (K : PySem.W.Frag) : Bool → Addr → It
  | true, a => Itl K a
  | false, a => Itt K a
def iSeq (K : PySem.W.Frag) (tl : TE) : TI := fun σ H R => tl σ H fun x H1 => ∃ b a xs, x = .ref a ∧ SqB K b H1 a xs ∧ (xs.length ≤ sizeLine → R (itSeq K b a) H1)
theorem pi_seq {l : Expr} {tl : TE} (hl : PE X l tl) : PI X tg l (iSeq X.K tl) := by
  refine ⟨fun pins s σ H R I h => ?_⟩
  refine thn (hl.run pins s σ H _ I h) fun v s1 ⟨x, H1, I1, r1, q1⟩ => ?_
  obtain ⟨b, a, xs, e, hq, q⟩ := q1
  subst e
  cases r1
  cases b with
  | true =>
    obtain ⟨its, rv, p, hz⟩ := I1.list hq
    refine wpAny_pyIter_list p.isList ?_
    refine ⟨s1.heap.objs.size, [s1.heap.objs.size], _, _, H1, rfl, I1.kept (t' := s1.toks) fun b o e => Heap.get?_push_of_some _ e, turn_list a _, ⟨_, Heap.get?_push_size _ rfl, rfl, rfl⟩, fun b hb => ?_, q hz⟩
    have e : b = s1.heap.objs.size := by simpa using hb
    subst e
    exact I1.fpOk (Nat.le_refl _) (I1.hok.fresh (Nat.le_refl _))
  | false =>
    obtain ⟨its, rv, p, hz⟩ := I1.tuple hq
    refine wpAny_pyIter_tuple (show s1.heap.IsTuple a its.toArray from p) ?_
    refine ⟨s1.heap.objs.size, [s1.heap.objs.size], _, _, H1, rfl, I1.kept (t' := s1.toks) fun b o e => Heap.get?_push_of_some _ e, turn_tuple a _, ⟨_, Heap.get?_push_size _ rfl, rfl, rfl⟩, fun b hb => ?_, q hz⟩
    have e : b = s1.heap.objs.size := by simpa using hb
    subst e
    exact I1.fpOk (Nat.le_refl _) (I1.hok.fresh (Nat.le_refl _))
theorem src_seq {K : PySem.W.Frag} {m : List Addr} {hb : Hp} {bb : Bool} {a : Addr} {xs : List D} (hz : xs.length ≤ sizeLine)
    (g : Gd) (now : ∀ m' hb' H' μ', Wk m hb m' hb' → Rel K m' hb' H' μ' → gOk g μ' = true → ∃ ws, SqB K bb H' a ws ∧ ws.length = xs.length ∧ RdAll K m' hb' ws xs) : SrcOk K (itSeq K bb a) g xs m hb := by
  cases bb with
  | true =>
    refine ⟨hz, fun m' hb' H' μ' i s r gk hi => ?_, fun m' hb' H' μ' s r gk => ?_, fun m' hb' H' μ' i x H'' s r gk hi y => ?_⟩
    · obtain ⟨ws, h1, h2, h3⟩ := now m' hb' H' μ' s r gk
      exact ⟨ws, ws[i], h1, by simp [h2, hi]⟩
    · obtain ⟨ws, h1, h2, h3⟩ := now m' hb' H' μ' s r gk
      exact ⟨ws, h1, Nat.le_of_eq h2⟩
    · obtain ⟨ws, h1, h2, h3⟩ := now m' hb' H' μ' s r gk
      obtain ⟨rfl, y⟩ := y
      obtain ⟨d, e1, e2⟩ := h3.getV (y ws h1)
      exact ⟨d, hb', e1, Step.refl, r, e2⟩
  | false =>
    refine ⟨hz, fun m' hb' H' μ' i s r gk hi => ?_, fun m' hb' H' μ' s r gk => ?_, fun m' hb' H' μ' i x H'' s r gk hi y => ?_⟩
    · obtain ⟨ws, h1, h2, h3⟩ := now m' hb' H' μ' s r gk
      exact ⟨ws, ws[i], h1, by simp [h2, hi]⟩
    · obtain ⟨ws, h1, h2, h3⟩ := now m' hb' H' μ' s r gk
      exact ⟨ws, h1, Nat.le_of_eq h2⟩
    · obtain ⟨ws, h1, h2, h3⟩ := now m' hb' H' μ' s r gk
      obtain ⟨rfl, y⟩ := y
      obtain ⟨d, e1, e2⟩ := h3.getV (y ws h1)
      exact ⟨d, hb', e1, Step.refl, r, e2⟩
/-- the pack of one -/
theorem EvI.one {K : PySem.W.Frag} {E : XK} {kd : IK} {δ : SC.Env} {μ : Store} {m : List Addr} {hb H : Hp} {R : It → Hp → Prop} (h : EvI K E kd (evalE Φ (.cons A .nil) δ μ) m hb H R) :
    Ev K E (evalE Φ A δ μ) m hb H fun v H1 => ∃ m1 hb1 d μ1, Step m hb H m1 hb1 H1 ∧ Rel K m1 hb1 H1 μ1 ∧ Rdv K m1 hb1 v d ∧ ∃ g xs, pSrc kd μ1 [d] = some (g, xs) ∧ ∀ J, SrcOk K J g xs m1 hb1 → R J H1 := by
  unfold evalE at h
  generalize evalE Φ A δ μ = w at h ⊢
  match w, h with
  | .ok (d, μ1), h =>
    intro v m' hb' H' s r rd
    obtain ⟨g, xs, e, q⟩ := h
    exact ⟨m', hb', d, μ1, s, r, rd, g, xs, e, fun J j => q J m' hb' H' s r j⟩
  | .exc c p μ', h => exact h
theorem EvI.two {K : PySem.W.Frag} {E : XK} {kd : IK} {δ : SC.Env} {μ : Store} {m : List Addr} {hb H : Hp} {σ : L2.St} {R : It → Hp → Prop} (s : Slots K m hb H δ σ) (r : Rel K m hb H μ) (h : EvI K E kd (evalE Φ (.cons A (.cons B .nil)) δ μ) m hb H R) :
    tS K E Φ A σ H fun v H1 => tS K E Φ B σ H1 fun u H2 => ∃ m1 hb1 d e μ1, Rel K m1 hb1 H2 μ1 ∧ Rdv K m1 hb1 v d ∧ Rdv K m1 hb1 u e ∧ ∃ g xs, pSrc kd μ1 [d, e] = some (g, xs) ∧ ∀ J, SrcOk K J g xs m1 hb1 → R J H2 := by
  refine ⟨m, hb, δ, μ, r, s, ?_⟩
  unfold evalE at h
  generalize evalE Φ A δ μ = w at h ⊢
  match w, h with
  | .exc c p μ', h => exact h
  | .ok (d, μ1), h =>
    intro v m1 hb1 H1 s1 r1 rd1
    refine ⟨m1, hb1, δ, μ1, r1, s.step s1, ?_⟩
    have h : EvI K E kd ((evalE Φ (.cons B .nil) δ μ1).bind fun q => .ok (.tup (d :: packOf q.1), q.2)) m hb H R := h
    unfold evalE at h
    generalize evalE Φ B δ μ1 = w2 at h ⊢
    match w2, h with
    | .exc c p μ', h => exact fun m' hb' H' s r => h m' hb' H' (s1.trans s) r
    | .ok (e, μ2), h =>
      intro u m2 hb2 H2 s2 r2 rd2
      obtain ⟨g, xs, ee, q⟩ := h
      exact ⟨m2, hb2, d, e, μ2, r2, rd1.mono s2.pre s2.sub, rd2, g, xs, ee, fun J j => q J m2 hb2 H2 (s1.trans s2) r2 j⟩
theorem EvI.three {K : PySem.W.Frag} {E : XK} {kd : IK} {δ : SC.Env} {μ : Store} {m : List Addr} {hb H : Hp} {σ : L2.St} {R : It → Hp → Prop} (s : Slots K m hb H δ σ) (r : Rel K m hb H μ) (h : EvI K E kd (evalE Φ (.cons A (.cons B (.cons C .nil))) δ μ) m hb H R) :
    tS K E Φ A σ H fun v H1 => tS K E Φ B σ H1 fun u H2 => tS K E Φ C σ H2 fun t H3 => ∃ m1 hb1 d e f μ1, Rel K m1 hb1 H3 μ1 ∧ Rdv K m1 hb1 v d ∧ Rdv K m1 hb1 u e ∧ Rdv K m1 hb1 t f ∧ ∃ g xs, pSrc kd μ1 [d, e, f] = some (g, xs) ∧ ∀ J, SrcOk K J g xs m1 hb1 → R J H3 := by
  refine ⟨m, hb, δ, μ, r, s, ?_⟩
  unfold evalE at h
  generalize evalE Φ A δ μ = w at h ⊢
  match w, h with
  | .exc c p μ', h => exact h
  | .ok (d, μ1), h =>
    intro v m1 hb1 H1 s1 r1 rd1
    refine ⟨m1, hb1, δ, μ1, r1, s.step s1, ?_⟩
    have h : EvI K E kd ((evalE Φ (.cons B (.cons C .nil)) δ μ1).bind fun q => .ok (.tup (d :: packOf q.1), q.2)) m hb H R := h
    unfold evalE at h
    generalize evalE Φ B δ μ1 = w2 at h ⊢
    match w2, h with
    | .exc c p μ', h => exact fun m' hb' H' s r => h m' hb' H' (s1.trans s) r
    | .ok (e, μ2), h =>
      intro u m2 hb2 H2 s2 r2 rd2
      refine ⟨m2, hb2, δ, μ2, r2, (s.step s1).step s2, ?_⟩
      have h : EvI K E kd (((evalE Φ (.cons C .nil) δ μ2).bind fun q => .ok (.tup (e :: packOf q.1), q.2)).bind fun q => .ok (.tup (d :: packOf q.1), q.2)) m hb H R := h
      unfold evalE at h
      generalize evalE Φ C δ μ2 = w3 at h ⊢
      match w3, h with
      | .exc c p μ', h => exact fun m' hb' H' s r => h m' hb' H' ((s1.trans s2).trans s) r
      | .ok (f, μ3), h =>
        intro t m3 hb3 H3 s3 r3 rd3
        obtain ⟨g, xs, ee, q⟩ := h
        exact ⟨m3, hb3, d, e, f, μ3, r3, (rd1.mono s2.pre s2.sub).mono s3.pre s3.sub, rd2.mono s3.pre s3.sub, rd3, g, xs, ee, fun J j => q J m3 hb3 H3 ((s1.trans s2).trans s3) r3 j⟩
theorem si_plain (ha : SE X Ex Φ a A) : SI X Ex Φ tg a .plain (.cons A .nil) :=
  PI.mono (pi_seq ha) fun σ H R ⟨m, hb, δ, μ, r, s, h⟩ => by
    refine ⟨m, hb, δ, μ, r, s, (EvI.one h).imp fun v H1 ⟨m1, hb1, d, μ1, st, r1, rd, g, xs, e, q⟩ => ?_⟩
    have e2 : ∃ ys, seqOf μ1 d = some ys ∧ g = gd μ1 d ∧ xs = ys := by
      clear q
      cases d with
      | dct _ _ => cases rd
      | _ =>
        simp only [pSrc, Option.map_eq_some_iff, Prod.mk.injEq] at e
        obtain ⟨zs, e1, e2, e3⟩ := e
        exact ⟨zs, e1, e2.symm, e3.symm⟩
    obtain ⟨ys, e1, rfl, rfl⟩ := e2
    obtain ⟨bb, a0, vs, rfl, hl, hq, hr, now⟩ := src_now r1 rd e1
    refine ⟨bb, a0, vs, rfl, hq, fun hz => q _ (src_seq (by rw [← hl]; exact hz) _ now)⟩
theorem rg_len (a b : Int) (h : rgOk a b = true) : (rg a b).length ≤ sizeLine ∧ (rg a b).length = (b - a).toNat := by
  unfold rgOk at h
  simp only [Bool.and_eq_true, decide_eq_true_eq] at h
  unfold rg
  rw [List.length_map, List.length_range]
  exact ⟨by omega, rfl⟩
theorem src_rg {K : PySem.W.Frag} {m : List Addr} {hb : Hp} {a b : Int} (h : rgOk a b = true) : SrcOk K (Itr a (b - a).toNat) [] (rg a b) m hb := by
  obtain ⟨h1, h2⟩ := rg_len a b h
  refine ⟨h1, fun m' hb' H' μ' i s r gk hi => ?_, fun m' hb' H' μ' s r gk => ?_, fun m' hb' H' μ' i x H'' s r gk hi y => ?_⟩
  · show i < _; rw [← h2]; exact hi
  · show _ ≤ _; rw [h2]; exact Nat.le_refl _
  · obtain ⟨rfl, rfl⟩ := y
    refine ⟨.int (a + i), hb', ?_, Step.refl, r, .int _⟩
    unfold rg
    rw [List.getElem?_map, List.getElem?_range (by rw [← h2]; exact hi)]
    rfl
theorem rgOk_b {a b : Int} (h : rgOk a b = true) : -(2 ^ 62) ≤ a ∧ a < 2 ^ 62 ∧ -(2 ^ 62) ≤ b ∧ b < 2 ^ 62 := by
  unfold rgOk at h
  simp only [Bool.and_eq_true, decide_eq_true_eq] at h
  omega
theorem si_range1 (hm : X.mg "range" = none) (ha : SE X Ex Φ a A) (hg : Gl X "range" := by rfl) (hs : starEach [a] X.env = [(false, eval a X.env)] := by rfl) : SI X Ex Φ tg (.Call (.Name "range" p) [a] [] pos) .range (.cons A .nil) :=
  PI.mono (pi_range1 hg hm (pa_cons ha pa_nil hs) hs) fun σ H R ⟨m, hb, δ, μ, r, s, h⟩ => by
    refine ⟨m, hb, δ, μ, r, s, (EvI.one h).imp fun v H1 ⟨m1, hb1, d, μ1, st, r1, rd, g, xs, e, q⟩ => ?_⟩
    cases d with
    | int j =>
      cases rd
      simp only [pSrc] at e
      split at e
      · rename_i hk
        cases e
        have h2 := rgOk_b hk
        refine ⟨j, rfl, h2.2.2.1, h2.2.2.2, ?_⟩
        have := q (Itr 0 j.toNat) (by have := src_rg (K := X.K) (m := m1) (hb := hb1) hk; rwa [Int.sub_zero] at this)
        exact this
      · cases e
    | _ => cases e
theorem si_range2 (hm : X.mg "range" = none) (ha : SE X Ex Φ a A) (hb : SE X Ex Φ b B) (hg : Gl X "range" := by rfl) (hs : starEach [a, b] X.env = [(false, eval a X.env), (false, eval b X.env)] := by rfl) (hs2 : starEach [b] X.env = [(false, eval b X.env)] := by rfl) :
    SI X Ex Φ tg (.Call (.Name "range" p) [a, b] [] pos) .range (.cons A (.cons B .nil)) :=
  PI.mono (pi_range2 hg hm (pa_cons ha (pa_cons hb pa_nil hs2) (by rw [hs, hs2])) hs hs2) fun σ H R ⟨m, hb, δ, μ, r, s, h⟩ => by
    obtain ⟨m', hb', δ', μ', r', s', h⟩ := EvI.two s r h
    refine ⟨m', hb', δ', μ', r', s', h.imp fun v H1 ⟨m1, hb1, δ1, μ1, r1, s1, h1⟩ => ⟨m1, hb1, δ1, μ1, r1, s1, h1.imp fun u H2 ⟨m2, hb2, d, e, μ2, r2, rd, re, g, xs, ee, q⟩ => ?_⟩⟩
    cases d with
    | int i =>
      cases e with
      | int j =>
        cases rd; cases re
        simp only [pSrc] at ee
        split at ee
        · rename_i hk
          cases ee
          obtain ⟨b1, b2, b3, b4⟩ := rgOk_b hk
          exact ⟨i, j, rfl, ⟨b1, b2, b3, b4⟩, q _ (src_rg hk)⟩
        · cases ee
      | _ => cases ee
    | _ => cases ee
theorem enumFrom_get (xs : List D) : ∀ (k i : Nat), (enumFrom k xs)[i]? = (xs[i]?).map fun x => .tup [.int ((k + i : Nat) : Int), x] := by
  induction xs with
  | nil => intro k i; simp [enumFrom]
  | cons x xs ih =>
    intro k i
    cases i with
    | zero => simp [enumFrom]
    | succ i =>
      simp only [enumFrom, List.getElem?_cons_succ, ih]
      rw [show k + 1 + i = k + (i + 1) by omega]
theorem enumFrom_len (xs : List D) : ∀ k : Nat, (enumFrom k xs).length = xs.length := by
  induction xs with
  | nil => intro k; rfl
  | cons x xs ih => intro k; simp [enumFrom, ih]
theorem zip2_len : ∀ xs ys : List D, (zip2 xs ys).length = min xs.length ys.length
  | [], _ => by simp [zip2]
  | _ :: _, [] => by simp [zip2]
  | x :: xs, y :: ys => by
    simp only [zip2, List.length_cons, zip2_len xs ys]
    omega
theorem zip2_get : ∀ (xs ys : List D) (i : Nat) (x y : D), xs[i]? = some x → ys[i]? = some y → (zip2 xs ys)[i]? = some (.tup [x, y])
  | [], _, _, _, _, h, _ => by simp at h
  | _ :: _, [], _, _, _, _, h => by simp at h
  | _ :: _, _ :: _, 0, _, _, h, h' => by simp at h h'; simp [zip2, h, h']
  | _ :: xs, _ :: ys, i + 1, x, y, h, h' => by
    simp only [zip2, List.getElem?_cons_succ] at *
    exact zip2_get xs ys i x y h h'
theorem zip3_len : ∀ xs ys zs : List D, (zip3 xs ys zs).length = min (min xs.length ys.length) zs.length
  | [], _, _ => by simp [zip3]
  | _ :: _, [], _ => by simp [zip3]
  | _ :: _, _ :: _, [] => by simp [zip3]
  | x :: xs, y :: ys, z :: zs => by
    simp only [zip3, List.length_cons, zip3_len xs ys zs]
    omega
theorem zip3_get : ∀ (xs ys zs : List D) (i : Nat) (x y z : D), xs[i]? = some x → ys[i]? = some y → zs[i]? = some z → (zip3 xs ys zs)[i]? = some (.tup [x, y, z])
  | [], _, _, _, _, _, _, h, _, _ => by simp at h
  | _ :: _, [], _, _, _, _, _, _, h, _ => by simp at h
  | _ :: _, _ :: _, [], _, _, _, _, _, _, h => by simp at h
  | _ :: _, _ :: _, _ :: _, 0, _, _, _, h, h', h'' => by simp at h h' h''; simp [zip3, h, h', h'']
  | _ :: xs, _ :: ys, _ :: zs, i + 1, x, y, z, h, h', h'' => by
    simp only [zip3, List.getElem?_cons_succ] at *
    exact zip3_get xs ys zs i x y z h h' h''
theorem si_enum {elts : List Expr} {kk : Nat} {tpos : Pos} (hm : X.mg "enumerate" = none) (ha : SE X Ex Φ a A) (hg : Gl X "enumerate" := by rfl) (hs : starEach [a] X.env = [(false, eval a X.env)] := by rfl) : SI X Ex Φ (.Tuple elts kk tpos) (.Call (.Name "enumerate" p) [a] [] pos) .enum (.cons A .nil) :=
  PI.mono (pi_enumB hg hm (pa_cons ha pa_nil hs) hs) fun σ H R ⟨m, hb, δ, μ, r, s, h⟩ => by
    refine ⟨m, hb, δ, μ, r, s, (EvI.one h).imp fun v H1 ⟨m1, hb1, d, μ1, st, r1, rd, g, xs, e, q⟩ => ?_⟩
    simp only [pSrc, Option.map_eq_some_iff, Prod.mk.injEq] at e
    obtain ⟨ys, e1, e2, e3⟩ := e
    subst e2 e3
    obtain ⟨bb, a0, vs, rfl, hl, hq, hr, now⟩ := src_now r1 rd e1
    refine ⟨bb, a0, vs, rfl, hq, fun hz => q _ ⟨by rw [enumFrom_len, ← hl]; exact hz, fun m' hb' H' μ' i s r gk hi => ?_, fun m' hb' H' μ' s r gk => ?_, fun m' hb' H' μ' i x H'' s r gk hi y => ?_⟩⟩
    · rw [enumFrom_len] at hi
      obtain ⟨ws, h1, h2, h3⟩ := now m' hb' H' μ' s r gk
      exact ⟨by rw [hl]; exact hi, [ws], ⟨h1, trivial⟩, by simp [h2, hl]⟩
    · obtain ⟨ws, h1, h2, h3⟩ := now m' hb' H' μ' s r gk
      exact ⟨by rw [enumFrom_len, hl], [ws], ⟨h1, trivial⟩, by simp [h2, hl]⟩
    · obtain ⟨ws, h1, h2, h3⟩ := now m' hb' H' μ' s r gk
      obtain ⟨T, us, rfl, hT, rfl, hY⟩ := y
      obtain ⟨vs', v, e1, e2, rfl⟩ := hY [ws] ⟨h1, trivial⟩
      cases e1
      obtain ⟨dd, e3, e4⟩ := h3.getV e2
      obtain ⟨r2, s2⟩ := r.laid (o := .tup [.int (i : Nat), v]) hT
      refine ⟨.tup [.int (i : Nat), dd], _, ?_, s2, r2, .tup (.inl (.inl upd_same)) (.cons (.int _) (.cons (e4.mono s2.pre s2.sub) .nil))⟩
      rw [enumFrom_get, e3]
      simp
theorem si_zip {elts : List Expr} {kk : Nat} {tpos : Pos} (hm : X.mg "zip" = none) (ha : SE X Ex Φ a A) (hb : SE X Ex Φ b B) (hg : Gl X "zip" := by rfl) (hs : starEach [a, b] X.env = (false, eval a X.env) :: starEach [b] X.env := by rfl) (hs2 : starEach [b] X.env = (false, eval b X.env) :: starEach [] X.env := by rfl)
    (hpl : (backTo pos (starEach [b] X.env)).any (·.1) = false := by rfl) : SI X Ex Φ (.Tuple elts kk tpos) (.Call (.Name "zip" p) [a, b] [] pos) .zip (.cons A (.cons B .nil)) :=
  PI.mono (pi_zipB hg hm (pa_cons ha (pa_cons hb pa_nil hs2) hs) hs hpl) fun σ H R ⟨m, hb, δ, μ, r, s, h⟩ => by
    obtain ⟨m', hb', δ', μ', r', s', h⟩ := EvI.two s r h
    refine ⟨m', hb', δ', μ', r', s', h.imp fun v H1 ⟨m1, hb1, δ1, μ1, r1, s1, h1⟩ => ⟨m1, hb1, δ1, μ1, r1, s1, h1.imp fun u H2 ⟨m2, hb2, d, e, μ2, r2, rd, re, g, xs, ee, q⟩ => ?_⟩⟩
    simp only [pSrc, Option.bind_eq_some_iff, Option.map_eq_some_iff, Prod.mk.injEq] at ee
    obtain ⟨xs1, e1, xs2, e2, e3, e4⟩ := ee
    subst e3 e4
    obtain ⟨ba, a0, vs, rfl, hl, hq, hr, now⟩ := src_now r2 rd e1
    obtain ⟨bb, b0, us, rfl, hl', hq', hr', now'⟩ := src_now r2 re e2
    refine ⟨ba, bb, a0, b0, vs, us, rfl, hq, hq', fun hz => q _ ⟨by rw [zip2_len, ← hl]; omega, fun m' hb' H' μ' i s r gk hi => ?_, fun m' hb' H' μ' s r gk => ?_, fun m' hb' H' μ' i x H'' s r gk hi y => ?_⟩⟩
    · rw [zip2_len] at hi
      obtain ⟨g1, g2⟩ := gOk_app gk
      obtain ⟨ws, h1, h2, h3⟩ := now m' hb' H' μ' s r g1
      obtain ⟨ws', h1', h2', h3'⟩ := now' m' hb' H' μ' s r g2
      exact ⟨by rw [hl, hl']; exact hi, [ws, ws'], ⟨h1, h1', trivial⟩, by simp [h2, hl, h2', hl']⟩
    · obtain ⟨g1, g2⟩ := gOk_app gk
      obtain ⟨ws, h1, h2, h3⟩ := now m' hb' H' μ' s r g1
      obtain ⟨ws', h1', h2', h3'⟩ := now' m' hb' H' μ' s r g2
      exact ⟨by rw [zip2_len, hl, hl'], [ws, ws'], ⟨h1, h1', trivial⟩, by simp [h2, hl, h2', hl']⟩
    · obtain ⟨g1, g2⟩ := gOk_app gk
      obtain ⟨ws, h1, h2, h3⟩ := now m' hb' H' μ' s r g1
      obtain ⟨ws', h1', h2', h3'⟩ := now' m' hb' H' μ' s r g2
      obtain ⟨T, zs, rfl, hT, rfl, hY⟩ := y
      obtain ⟨w1, w2, x, y, e0, e1, e2, rfl⟩ := hY [ws, ws'] ⟨h1, h1', trivial⟩
      cases e0
      obtain ⟨d1, e3, e4⟩ := h3.getV e1
      obtain ⟨d2, e5, e6⟩ := h3'.getV e2
      obtain ⟨r2, s2⟩ := r.laid (o := .tup [x, y]) hT
      exact ⟨.tup [d1, d2], _, zip2_get _ _ _ _ _ e3 e5, s2, r2, .tup (.inl (.inl upd_same)) (.cons (e4.mono s2.pre s2.sub) (.cons (e6.mono s2.pre s2.sub) .nil))⟩
theorem si_zip3 {elts : List Expr} {kk : Nat} {tpos : Pos} (hm : X.mg "zip" = none) (ha : SE X Ex Φ a A) (hb : SE X Ex Φ b B) (hc : SE X Ex Φ c C) (hg : Gl X "zip" := by rfl) (hs : starEach [a, b, c] X.env = (false, eval a X.env) :: starEach [b, c] X.env := by rfl) (hs2 : starEach [b, c] X.env = (false, eval b X.env) :: starEach [c] X.env := by rfl)
    (hs3 : starEach [c] X.env = (false, eval c X.env) :: starEach [] X.env := by rfl) (hpl : (backTo pos (starEach [b, c] X.env)).any (·.1) = false := by rfl) : SI X Ex Φ (.Tuple elts kk tpos) (.Call (.Name "zip" p) [a, b, c] [] pos) .zip (.cons A (.cons B (.cons C .nil))) :=
  PI.mono (pi_zipB3 hg hm (pa_cons ha (pa_cons hb (pa_cons hc pa_nil hs3) hs2) hs) hs hpl) fun σ H R ⟨m, hb, δ, μ, r, s, h⟩ => by
    obtain ⟨m', hb', δ', μ', r', s', h⟩ := EvI.three s r h
    refine ⟨m', hb', δ', μ', r', s', h.imp fun v H1 ⟨m1, hb1, δ1, μ1, r1, s1, h1⟩ => ⟨m1, hb1, δ1, μ1, r1, s1, h1.imp fun u H2 ⟨m2, hb2, δ2, μ2, r2, s2, h2⟩ => ⟨m2, hb2, δ2, μ2, r2, s2, h2.imp fun t H3 ⟨m3, hb3, d, e, f, μ3, r3, rd, re, rf, g, xs, ee, q⟩ => ?_⟩⟩⟩
    simp only [pSrc, Option.bind_eq_some_iff, Option.map_eq_some_iff, Prod.mk.injEq] at ee
    obtain ⟨xs1, e1, xs2, e2, xs3, e3, e4, e5⟩ := ee
    subst e4 e5
    obtain ⟨ba, a0, vs, rfl, hl, hq, hr, now⟩ := src_now r3 rd e1
    obtain ⟨bb, b0, us, rfl, hl', hq', hr', now'⟩ := src_now r3 re e2
    obtain ⟨bc, c0, ts, rfl, hl3, hq3, hr3, now3⟩ := src_now r3 rf e3
    refine ⟨ba, bb, bc, a0, b0, c0, vs, us, ts, rfl, hq, hq', hq3, fun hz => q _ ⟨by rw [zip3_len, ← hl]; omega, fun m' hb' H' μ' i s r gk hi => ?_, fun m' hb' H' μ' s r gk => ?_, fun m' hb' H' μ' i x H'' s r gk hi y => ?_⟩⟩
    · rw [zip3_len] at hi
      obtain ⟨g1, g2⟩ := gOk_app gk
      obtain ⟨g2, g3⟩ := gOk_app g2
      obtain ⟨ws, h1, h2, h3⟩ := now m' hb' H' μ' s r g1
      obtain ⟨ws', h1', h2', h3'⟩ := now' m' hb' H' μ' s r g2
      obtain ⟨w3, k1, k2, k3⟩ := now3 m' hb' H' μ' s r g3
      exact ⟨by rw [hl, hl', hl3]; exact hi, [ws, ws', w3], ⟨h1, h1', k1, trivial⟩, by simp [h2, hl, h2', hl', k2, hl3]⟩
    · obtain ⟨g1, g2⟩ := gOk_app gk
      obtain ⟨g2, g3⟩ := gOk_app g2
      obtain ⟨ws, h1, h2, h3⟩ := now m' hb' H' μ' s r g1
      obtain ⟨ws', h1', h2', h3'⟩ := now' m' hb' H' μ' s r g2
      obtain ⟨w3, k1, k2, k3⟩ := now3 m' hb' H' μ' s r g3
      exact ⟨by rw [zip3_len, hl, hl', hl3], [ws, ws', w3], ⟨h1, h1', k1, trivial⟩, by simp [h2, hl, h2', hl', k2, hl3]⟩
    · obtain ⟨g1, g2⟩ := gOk_app gk
      obtain ⟨g2, g3⟩ := gOk_app g2
      obtain ⟨ws, h1, h2, h3⟩ := now m' hb' H' μ' s r g1
      obtain ⟨ws', h1', h2', h3'⟩ := now' m' hb' H' μ' s r g2
      obtain ⟨w3, k1, k2, k3⟩ := now3 m' hb' H' μ' s r g3
      obtain ⟨T, zs, rfl, hT, rfl, hY⟩ := y
      obtain ⟨u1, u2, u3, x, y, z, e0, e1, e2, e3, rfl⟩ := hY [ws, ws', w3] ⟨h1, h1', k1, trivial⟩
      cases e0
      obtain ⟨d1, f1, f2⟩ := h3.getV e1
      obtain ⟨d2, f3, f4⟩ := h3'.getV e2
      obtain ⟨d3, f5, f6⟩ := k3.getV e3
      obtain ⟨r2, s2⟩ := r.laid (o := .tup [x, y, z]) hT
      exact ⟨.tup [d1, d2, d3], _, zip3_get _ _ _ _ _ _ _ f1 f3 f5, s2, r2, .tup (.inl (.inl upd_same)) (.cons (f2.mono s2.pre s2.sub) (.cons (f4.mono s2.pre s2.sub) (.cons (f6.mono s2.pre s2.sub) .nil)))⟩
end
end SC

set_option Elab.async false
set_option linter.all false
set_option maxRecDepth 100000
set_option maxHeartbeats 2000000
/-! SC6: comprehensions, the store's new cells, own lists read. -/
namespace SC
open PySem PySem.Spec PyProof.Rows L2
/-! ### what makes a new list -/
def FinF (K : PySem.W.Frag) (m : List Addr) (hb H : Hp) (μ : Store) (xs : List D) (Q : VK) : Prop := ∀ p vs m' hb' H', Step m hb H m' hb' H' → Rel K m' hb' H' μ → H' p = some (.lst vs) → hb' p = none → p ∉ m' → RdAll K m' hb' vs xs → H p = none → Q (.ref p) H'
def EvF (K : PySem.W.Frag) (E : XK) (r : Res (D × Store)) (m : List Addr) (hb H : Hp) (Q : VK) : Prop := match r with
  | .ok (.lst xs, μ') => FinF K m hb H μ' xs Q
  | .exc c p μ' => ∀ m' hb' H', Step m hb H m' hb' H' → Rel K m' hb' H' μ' → exW K E c p H'
  | _ => False
def tF (K : PySem.W.Frag) (E : XK) (Φ : Fn) (A : SC.E) : TE := fun σ H Q => ∃ m hb δ μ, Rel K m hb H μ ∧ Slots K m hb H δ σ ∧ EvF K E (evalE Φ A δ μ) m hb H Q
def FE (X : Cx) (E : XK) (Φ : Fn) (e : Expr) (A : SC.E) : Prop := PE X e (tF X.K E Φ A)
/-- a new list, read from now on -/
theorem Fin.toF {K : PySem.W.Frag} {m : List Addr} {hb H : Hp} {μ : Store} {xs : List D} {Q : VK} (h : Fin K m hb H μ (.lst xs) Q) : FinF K m hb H μ xs Q := fun p vs m' hb' H' t r hp hn hm rd hf => by
  have ro := r.own hp hn hm
  have so : Step m hb H m' (upd hb' p (.lst vs)) H' := by
    refine ⟨t.pre, fun a u e => ?_, t.fr, t.keep, t.newm, fun a e => ?_⟩
    · have e' := t.sub a u e
      rw [upd_ne (ne_of_none e' hn)]; exact e'
    · by_cases ha : a = p
      · subst ha; exact .inr hf
      · rw [upd_ne ha] at e; exact t.newb a e
  exact h _ _ _ _ so ro (.lst (.inl upd_same) (rd.mono (fun _ _ e => e) fun a u e => by rw [upd_ne (ne_of_none e hn)]; exact e))
theorem FinF.step {K : PySem.W.Frag} {m m1 : List Addr} {hb hb1 H H1 : Hp} {μ : Store} {xs : List D} {Q : VK} (h : FinF K m hb H μ xs Q) (t : Step m hb H m1 hb1 H1) : FinF K m1 hb1 H1 μ xs Q := fun p vs m' hb' H' s r hp hn hm rd hf => by
  refine h p vs m' hb' H' (t.trans s) r hp hn hm rd ?_
  cases e : H p with
  | none => rfl
  | some o => exact absurd hf (t.keep p (by rw [e]; exact fun z => by cases z))
theorem FinF.new {K : PySem.W.Frag} {m : List Addr} {hb H : Hp} {μ : Store} {xs : List D} {vs : List V} {Q : VK} (h : FinF K m hb H μ xs Q) (r : Rel K m hb H μ) (rd : RdAll K m hb vs xs) : ∀ p, H p = none → Q (.ref p) (upd H p (.lst vs)) := fun p hp => by
  obtain ⟨n1, n2⟩ := r.fresh hp
  exact h p vs m hb _ (Step.put hp) (r.put n1 n2) upd_same n1 n2 rd hp
theorem EvF.step {K : PySem.W.Frag} {E : XK} {m m1 : List Addr} {hb hb1 H H1 : Hp} {r : Res (D × Store)} {Q : VK} (h : EvF K E r m hb H Q) (t : Step m hb H m1 hb1 H1) : EvF K E r m1 hb1 H1 Q := by
  match r, h with
  | .ok (.lst xs, μ'), h => exact FinF.step h t
  | .exc c p μ', h => exact fun m' hb' H' s r => h m' hb' H' (t.trans s) r
theorem EvF.bind {K : PySem.W.Frag} {E : XK} {m : List Addr} {hb H : Hp} {Q : VK} {r : Res (D × Store)} {f : D × Store → Res (D × Store)} (h : EvF K E (r.bind f) m hb H Q) :
    Ev K E r m hb H fun v H1 => ∃ m1 hb1 d μ1, Mid K m hb H r v H1 m1 hb1 d μ1 ∧ EvF K E (f (d, μ1)) m1 hb1 H1 Q := by
  match r, h with
  | .ok (d, μ'), h => exact fun v m' hb' H' s r rd => ⟨m', hb', d, μ', ⟨rfl, s, r, rd⟩, EvF.step h s⟩
  | .exc c p μ', h => exact fun m' hb' H' s r => h m' hb' H' s r
theorem EvF.bindA {K : PySem.W.Frag} {E : XK} {m : List Addr} {hb H : Hp} {Q : VK} {r : Res (D × Store)} {f : D × Store → Res (D × Store)} (h : EvF K E (r.bind f) m hb H Q) :
    EvA K E r m hb H fun vs H1 => ∃ m1 hb1 d μ1, MidA K m hb H r vs H1 m1 hb1 d μ1 ∧ EvF K E (f (d, μ1)) m1 hb1 H1 Q := by
  match r, h with
  | .ok (d, μ'), h => exact fun v m' hb' H' s r rd => ⟨m', hb', d, μ', ⟨rfl, s, r, rd⟩, EvF.step h s⟩
  | .exc c p μ', h => exact fun m' hb' H' s r => h m' hb' H' s r
theorem EvF.rD {K : PySem.W.Frag} {E : XK} {m : List Addr} {hb H : Hp} {Q : VK} {μ : Store} {o : Option D} (h : EvF K E (SC.rD o μ) m hb H Q) : ∃ xs, o = some (.lst xs) ∧ FinF K m hb H μ xs Q := by
  match o, h with
  | some (.lst xs), h => exact ⟨xs, rfl, h⟩
/-- what makes a new list gives it -/
theorem se_fe {X : Cx} {E : XK} {Φ : Fn} {e : Expr} {A : SC.E} (h : FE X E Φ e A) (hl : ∀ δ μ d μ', evalE Φ A δ μ = .ok (d, μ') → ∃ xs, d = .lst xs) : SE X E Φ e A :=
  PE.mono h fun σ H Q ⟨m, hb, δ, μ, r, s, h⟩ => by
    refine ⟨m, hb, δ, μ, r, s, ?_⟩
    cases ew : evalE Φ A δ μ with
    | ok p =>
      obtain ⟨d, μ'⟩ := p
      obtain ⟨xs, rfl⟩ := hl δ μ d μ' ew
      rw [ew] at h
      exact Fin.toF h
    | exc c p μ' => rw [ew] at h; exact h
    | bad => rw [ew] at h; exact h.elim
section
variable {X : Cx} {Ex : XK} {Φ : Fn} {a b c : Expr} {A B C : SC.E} {pos p : Pos}

/-! ### tests of a comprehension -/
def STs (X : Cx) (E : XK) (Φ : Fn) (ifs : List Expr) (A : SC.E) : Prop := PTs X ifs (fun σ H Q => ∃ m hb δ μ, Rel X.K m hb H μ ∧ Slots X.K m hb H δ σ ∧ EvT X.K E (condE A (evalE Φ A δ μ) μ) m hb H Q)
theorem PTs.mono {X : Cx} {e : List Expr} {t t' : TT} (h : PTs X e t) (i : ∀ σ H Q, t' σ H Q → t σ H Q) : PTs X e t' := ⟨fun pins s σ H Q I q => h.run pins s σ H Q I (i _ _ _ q)⟩
theorem sts_nil : STs X Ex Φ [] .nil := PTs.mono pts_nil fun σ H Q ⟨m, hb, δ, μ, r, s, h⟩ => h m hb H Step.refl r
theorem sts_one (h : ST X Ex Φ a A) (hA : ∀ r μ, condE A r μ = evT r := by intro _ _; rfl) : STs X Ex Φ [a] A := PTs.mono (pts_one h) fun σ H Q ⟨m, hb, δ, μ, r, s, h⟩ => ⟨m, hb, δ, μ, r, s, by rw [hA] at h; exact h⟩

theorem wipe_get : ∀ (σ : L2.St) (vs : List Nat) (j : Nat), j ∉ vs → (L2.wipe σ vs)[j]? = σ[j]?
  | _, [], _, _ => rfl
  | σ, v :: vs, j, h => by
    simp only [List.mem_cons, not_or] at h
    unfold L2.wipe
    rw [List.getElem?_set_ne (Ne.symm h.1)]
    exact wipe_get σ vs j h.2
theorem wipe_in : ∀ (σ : L2.St) (vs : List Nat) (j : Nat), j ∈ vs → (L2.wipe σ vs)[j]? = if j < σ.length then some none else none
  | σ, v :: vs, j, h => by
    unfold L2.wipe
    by_cases hj : j = v
    · subst hj
      by_cases hl : j < σ.length
      · rw [List.getElem?_set_self (by rw [wipe_length]; exact hl), if_pos hl]
      · rw [List.getElem?_eq_none (by rw [List.length_set, wipe_length]; omega), if_neg hl]
    · rw [List.getElem?_set_ne (Ne.symm hj)]
      exact wipe_in σ vs j (by simpa [hj] using h)
theorem wipe_same {σ σ' : L2.St} {is vs : List Nat} (h : SetAt is σ σ') (hs : ∀ i ∈ is, i ∈ vs) : L2.wipe σ' vs = L2.wipe σ vs := by
  refine List.ext_getElem? fun j => ?_
  by_cases hj : j ∈ vs
  · rw [wipe_in _ _ _ hj, wipe_in _ _ _ hj, h.1]
  · rw [wipe_get _ _ _ hj, wipe_get _ _ _ hj, h.2 j fun z => hj (hs j z)]
theorem wipe_wipe (σ : L2.St) (vs : List Nat) : L2.wipe (L2.wipe σ vs) vs = L2.wipe σ vs := by
  refine List.ext_getElem? fun j => ?_
  by_cases hj : j ∈ vs
  · rw [wipe_in _ _ _ hj, wipe_in _ _ _ hj, wipe_length]
  · rw [wipe_get _ _ _ hj, wipe_get _ _ _ hj]
theorem Step.updOwn {m m' : List Addr} {hb hb' H H' : Hp} {D : Addr} {o : HO} (s : Step m hb H m' hb' H') (h : H D = none) : Step m hb H m' hb' (upd H' D o) := by
  refine ⟨s.pre, s.sub, fun a u e n => ?_, fun a e => ?_, s.newm, s.newb⟩
  · rw [upd_ne (ne_of_none e h)]; exact s.fr a u e n
  · by_cases ha : a = D
    · subst ha; rw [upd_same]; exact fun z => by cases z
    · rw [upd_ne ha]; exact s.keep a e
/-- one turn -/
def turnF (Φ : Fn) (own tg : List Nat) (cnd elt : SC.E) (δ : SC.Env) (x : D) (μ1 : Store) : Res (Option D × Store) := match bindT tg x (wipeE δ own) with
  | some δ1 => (condE cnd (evalE Φ cnd δ1 μ1) μ1).bind fun t => if t.1 then (evalE Φ elt δ1 t.2).bind fun q => .ok (some q.1, q.2) else .ok (none, t.2)
  | none => .bad
theorem comp_eq {own tg : List Nat} {kd : IK} {src cnd elt : SC.E} {δ : SC.Env} {μ : Store} : evalE Φ (.comp own tg kd src cnd elt) δ μ = (evalE Φ src δ μ).bind fun p => (match pSrc kd p.2 (packOf p.1) with
    | some (g, xs) => ((compLoop (turnF Φ own tg cnd elt δ) g xs p.2).bind fun q => .ok (.lst q.1, q.2)).calm
    | none => .bad) := by
  conv => lhs; rw [evalE]
  rfl
theorem calm_ok {α : Type} {r : Res α} {x : α} (h : r.calm = .ok x) : r = .ok x := by
  cases r with
  | ok a => exact h
  | exc _ _ _ => cases h
  | bad => cases h
theorem compLoop_nil {f : D → Store → Res (Option D × Store)} {g : Gd} {μ : Store} {p : List D × Store} (h : compLoop f g [] μ = .ok p) : gOk g μ = true ∧ p = ([], μ) := by
  unfold compLoop at h
  split at h
  · rename_i hg; cases h; exact ⟨hg, rfl⟩
  · cases h
theorem compLoop_cons {f : D → Store → Res (Option D × Store)} {g : Gd} {μ : Store} {x : D} {xs : List D} {p : List D × Store} (h : compLoop f g (x :: xs) μ = .ok p) :
    gOk g μ = true ∧ ∃ o μ1 rs μ2, f x μ = .ok (o, μ1) ∧ compLoop f g xs μ1 = .ok (rs, μ2) ∧ p = (o.toList ++ rs, μ2) := by
  unfold compLoop at h
  split at h
  · rename_i hg
    refine ⟨hg, ?_⟩
    cases e : f x μ with
    | ok q =>
      obtain ⟨o, μ1⟩ := q
      rw [e] at h
      simp only at h
      cases e2 : compLoop f g xs μ1 with
      | ok q =>
        obtain ⟨rs, μ2⟩ := q
        rw [e2] at h
        simp only at h
        cases h
        exact ⟨o, μ1, rs, μ2, rfl, e2, rfl⟩
      | exc _ _ _ => rw [e2] at h; cases h
      | bad => rw [e2] at h; cases h
    | exc _ _ _ => rw [e] at h; cases h
    | bad => rw [e] at h; cases h
  · cases h
theorem EvT.oks {K : PySem.W.Frag} {E : XK} {r : Res (Bool × Store)} {m : List Addr} {hb H : Hp} {Q : Bool → Hp → Prop} {b : Bool} {μ : Store} (e : r = .ok (b, μ)) (h : ∀ m' hb' H', Step m hb H m' hb' H' → Rel K m' hb' H' μ → Q b H') : EvT K E r m hb H Q := by
  subst e; exact h
theorem Ev.oks {K : PySem.W.Frag} {E : XK} {r : Res (D × Store)} {m : List Addr} {hb H : Hp} {Q : VK} {d : D} {μ : Store} (e : r = .ok (d, μ)) (h : ∀ v m' hb' H', Step m hb H m' hb' H' → Rel K m' hb' H' μ → Rdv K m' hb' v d → Q v H') : Ev K E r m hb H Q := by
  subst e; exact h
theorem comp_core {K : PySem.W.Frag} {E : XK} {m : List Addr} {hb H : Hp} {δ : SC.Env} {μ : Store} {σ : L2.St} {Q : VK} {own tg : List Nat} {kd : IK} {src cnd elt : SC.E} (hsub : ∀ i ∈ tg, i ∈ own) (r : Rel K m hb H μ) (s : Slots K m hb H δ σ)
    (h : EvF K E (evalE Φ (.comp own tg kd src cnd elt) δ μ) m hb H Q) :
    tLc (tSI K E Φ kd src) (tSG K tg) (fun σ H Q => ∃ m hb δ μ, Rel K m hb H μ ∧ Slots K m hb H δ σ ∧ EvT K E0 (condE cnd (evalE Φ cnd δ μ) μ) m hb H Q) (tS K E0 Φ elt) own σ H Q := by
  rw [comp_eq] at h
  refine ⟨m, hb, δ, μ, r, s, ?_⟩
  generalize evalE Φ src δ μ = w at h ⊢
  match w, h with
  | .exc c p μ', h => exact h
  | .ok (d, μ1), h =>
    cases ep : pSrc kd μ1 (packOf d) with
    | none =>
      have h : EvF K E (match pSrc kd μ1 (packOf d) with
        | some (g, xs) => ((compLoop (turnF Φ own tg cnd elt δ) g xs μ1).bind fun q => .ok (.lst q.1, q.2)).calm
        | none => .bad) m hb H Q := h
      rw [ep] at h
      exact h.elim
    | some gx =>
      obtain ⟨g, xs⟩ := gx
      refine ⟨g, xs, ep, fun J m1 hb1 H1 st1 r1 src => ?_⟩
      have h : EvF K E (match pSrc kd μ1 (packOf d) with
        | some (g, xs) => ((compLoop (turnF Φ own tg cnd elt δ) g xs μ1).bind fun q => .ok (.lst q.1, q.2)).calm
        | none => .bad) m hb H Q := h
      rw [ep] at h
      simp only at h
      generalize hc : compLoop (turnF Φ own tg cnd elt δ) g xs μ1 = z at h
      match z, h with
      | .ok (ys, μe), h =>
      intro D hD
      have fin : FinF K m hb H μe ys Q := h
      refine ⟨fun i mm H' => mm = xs.length - i ∧ i ≤ xs.length ∧ ∃ m' hb' μ' vs ds rs, Step m1 hb1 H1 m' hb' H' ∧ Rel K m' hb' H' μ' ∧ H' D = some (.lst vs) ∧ hb' D = none ∧ D ∉ m' ∧ RdAll K m' hb' vs ds ∧ vs.length ≤ i ∧
        compLoop (turnF Φ own tg cnd elt δ) g (xs.drop i) μ' = .ok (rs, μe) ∧ ds ++ rs = ys, ⟨xs.length, by simp, Nat.zero_le _, ?_⟩, ?_⟩
      · obtain ⟨n1, n2⟩ := r1.fresh hD
        exact ⟨m1, hb1, μ1, [], [], ys, Step.put hD, r1.put n1 n2, upd_same, n1, n2, .nil, Nat.le_refl _, hc, rfl⟩
      · rintro i mm H' ⟨rfl, hi, m', hb', μ', vs, ds, rs, s', r', hDv, hDb, hDm, rdv, hlen, hcl, hys⟩
        by_cases hlt : i < xs.length
        · rw [List.drop_eq_getElem_cons hlt] at hcl
          obtain ⟨hg, o, μ2, rs2, μ3, e1, e2, e3⟩ := compLoop_cons hcl
          cases e3
          refine .inr ⟨src.goes m' hb' H' μ' i s'.wk r' hg hlt, fun H2 => ∃ m' hb' μ' vs ds rs, Step m1 hb1 H1 m' hb' H2 ∧ Rel K m' hb' H2 μ' ∧ H2 D = some (.lst vs) ∧ hb' D = none ∧ D ∉ m' ∧ RdAll K m' hb' vs ds ∧ vs.length ≤ i + 1 ∧
            compLoop (turnF Φ own tg cnd elt δ) g (xs.drop (i + 1)) μ' = .ok (rs, μe) ∧ ds ++ rs = ys, fun H2 p => ⟨xs.length - (i + 1), by omega, rfl, hlt, p⟩, fun x H2 y => ?_⟩
          obtain ⟨dd, hb2, f1, s2, r2, rd2⟩ := src.yields m' hb' H' μ' i x H2 s'.wk r' hg hlt y
          have f1' : dd = xs[i] := by rw [List.getElem?_eq_getElem hlt] at f1; exact (Option.some.inj f1).symm
          subst f1'
          unfold turnF at e1
          split at e1
          · rename_i δ1 eb
            refine ⟨m', hb2, wipeE δ own, μ', _, δ1, r2, (((s.step st1).step s').step s2).wipe own, rd2, eb, fun σ2 sl2 sa => ⟨?_, ?_⟩⟩
            · rw [wipe_same sa hsub, wipe_wipe]
            · obtain ⟨t, e4, e5⟩ := res_ok e1
              obtain ⟨tb, μt⟩ := t
              refine ⟨m', hb2, δ1, μ', r2, sl2, EvT.oks e4 fun m3 hb3 H3 s3 r3 => ?_⟩
              have stp := (s'.trans s2).trans s3
              have hD3 : H3 D = some (.lst vs) := s3.fr D _ (s2.fr D _ hDv hDm) hDm
              have hDb3 : hb3 D = none := by
                cases q : hb3 D with
                | none => rfl
                | some o =>
                  rcases (s2.trans s3).newb D (by rw [q]; exact fun z => by cases z) with z | z
                  · exact absurd hDb z
                  · rw [hDv] at z; cases z
              have hDm3 : D ∉ m3 := fun z => by
                rcases (s2.trans s3).newm D z with q | q
                · exact hDm q
                · rw [hDv] at q; cases q
              cases tb with
              | false =>
                have e5 : (Res.ok (none, μt) : Res (Option SC.D × Store)) = .ok (o, μ2) := e5
                cases e5
                exact iteF ⟨m3, hb3, μ2, vs, ds, rs2, stp, r3, hD3, hDb3, hDm3, rdv.mono (s2.trans s3).pre (s2.trans s3).sub, Nat.le_succ_of_le hlen, e2, by simpa using hys⟩
              | true =>
                obtain ⟨q, e6, e7⟩ := res_ok (show (evalE Φ elt δ1 μt).bind (fun q => .ok (some q.1, q.2)) = .ok (o, μ2) from e5)
                obtain ⟨dy, μy⟩ := q
                cases e7
                refine iteT ⟨m3, hb3, δ1, μt, r3, sl2.step s3, Ev.oks e6 fun v m4 hb4 H4 s4 r4 rd4 => ?_⟩
                have hD4 : H4 D = some (.lst vs) := s4.fr D _ hD3 hDm3
                have hDb4 : hb4 D = none := by
                  cases q : hb4 D with
                  | none => rfl
                  | some o =>
                    rcases s4.newb D (by rw [q]; exact fun z => by cases z) with z | z
                    · exact absurd hDb3 z
                    · rw [hD3] at z; cases z
                have hDm4 : D ∉ m4 := fun z => by
                  rcases s4.newm D z with q | q
                  · exact hDm3 q
                  · rw [hD3] at q; cases q
                have s24 := (s2.trans s3).trans s4
                refine ⟨vs, hD4, Nat.lt_of_le_of_lt hlen (Nat.lt_of_lt_of_le hlt src.len), m4, hb4, _, vs ++ [v], ds ++ [dy], rs2, (stp.trans s4).updOwn hD, r4.put hDb4 hDm4, upd_same, hDb4, hDm4, (rdv.mono s24.pre s24.sub).append (.cons rd4 .nil), ?_, e2, ?_⟩
                · rw [List.length_append, List.length_singleton]; omega
                · rw [List.append_assoc]; exact hys
          · cases e1
        · have e : i = xs.length := by omega
          subst e
          rw [List.drop_length] at hcl
          obtain ⟨hg, e1⟩ := compLoop_nil hcl
          cases e1
          refine .inl ⟨src.stops m' hb' H' _ s'.wk r' hg, ?_⟩
          rw [List.append_nil] at hys
          subst hys
          have hD0 : H D = none := by
            cases q : H D with
            | none => rfl
            | some o => exact absurd hD (st1.keep D (by rw [q]; exact fun z => by cases z))
          exact fin D vs m' hb' H' (st1.trans s') r' hDv hDb hDm rdv hD0
theorem comp_lst {own tg : List Nat} {kd : IK} {src cnd elt : SC.E} {δ : SC.Env} {μ μ' : Store} {d : D} (h : evalE Φ (.comp own tg kd src cnd elt) δ μ = .ok (d, μ')) : ∃ xs, d = .lst xs := by
  rw [comp_eq] at h
  obtain ⟨p, h1, h2⟩ := res_ok h
  split at h2
  · obtain ⟨q, h3, h4⟩ := res_ok (calm_ok h2)
    cases h4
    exact ⟨_, rfl⟩
  · cases h2
theorem fe_comp {elt tg iter : Expr} {ifs : List Expr} {scope : Scope} (own : List (Str × Nat)) {is : List Nat} {kd : IK} {As Cnd Elt : SC.E} (hc : X.calm = true) (hN : X.N.Nodup) (hi : SI X Ex Φ tg iter kd As) (ok : BlkOk X.N X.env.scope scope own)
    (hg : ∀ (s : Shared) (H : Hp) (C : Addr) (cl : List (Str × Addr)) (fp : List Addr), SG (X.blk s H scope (compEnvC scope cl C X.env) fp) tg is) (ht : ∀ (s : Shared) (H : Hp) (C : Addr) (cl : List (Str × Addr)) (fp : List Addr), STs (X.blk s H scope (compEnvC scope cl C X.env) fp) E0 Φ ifs Cnd)
    (he : ∀ (s : Shared) (H : Hp) (C : Addr) (cl : List (Str × Addr)) (fp : List Addr), SE (X.blk s H scope (compEnvC scope cl C X.env) fp) E0 Φ elt Elt) {ow : List Nat} (how : own.map (·.2) = ow := by rfl) (hsub : ∀ i ∈ is, i ∈ ow := by decide) (hs : ∀ x, foldedSetIterable iter X.env x = pure x := by intro _; rfl) :
    FE X Ex Φ (.ListComp elt [⟨tg, iter, ifs, 0⟩] scope pos) (.comp ow is kd As Cnd Elt) := by
  subst how
  exact PE.mono (pe_lc (g := tSG X.K is) (tt := fun σ H Q => ∃ m hb δ μ, Rel X.K m hb H μ ∧ Slots X.K m hb H δ σ ∧ EvT X.K E0 (condE Cnd (evalE Φ Cnd δ μ) μ) m hb H Q) (te := tS X.K E0 Φ Elt) hc hN hi ok hg ht he hs) fun σ H Q ⟨m, hb, δ, μ, r, s, h⟩ => comp_core hsub r s h
theorem se_comp {elt tg iter : Expr} {ifs : List Expr} {scope : Scope} (own : List (Str × Nat)) {is : List Nat} {kd : IK} {As Cnd Elt : SC.E} (hc : X.calm = true) (hN : X.N.Nodup) (hi : SI X Ex Φ tg iter kd As) (ok : BlkOk X.N X.env.scope scope own)
    (hg : ∀ (s : Shared) (H : Hp) (C : Addr) (cl : List (Str × Addr)) (fp : List Addr), SG (X.blk s H scope (compEnvC scope cl C X.env) fp) tg is) (ht : ∀ (s : Shared) (H : Hp) (C : Addr) (cl : List (Str × Addr)) (fp : List Addr), STs (X.blk s H scope (compEnvC scope cl C X.env) fp) E0 Φ ifs Cnd)
    (he : ∀ (s : Shared) (H : Hp) (C : Addr) (cl : List (Str × Addr)) (fp : List Addr), SE (X.blk s H scope (compEnvC scope cl C X.env) fp) E0 Φ elt Elt) {ow : List Nat} (how : own.map (·.2) = ow := by rfl) (hsub : ∀ i ∈ is, i ∈ ow := by decide) (hs : ∀ x, foldedSetIterable iter X.env x = pure x := by intro _; rfl) :
    SE X Ex Φ (.ListComp elt [⟨tg, iter, ifs, 0⟩] scope pos) (.comp ow is kd As Cnd Elt) :=
  se_fe (fe_comp own hc hN hi ok hg ht he how hsub hs) fun δ μ d μ' e => comp_lst e
theorem fe_lst {es : List Expr} (h : SA X Ex Φ es A) (hp : packOk A = true := by rfl) (hn : packN A ≤ sizeLine := by decide) : FE X Ex Φ (.List es pos) (.lst A) :=
  PE.mono (pe_lst h) fun σ H Q ⟨m, hb, δ, μ, r, s, h⟩ => by
    unfold evalE at h
    refine ⟨m, hb, δ, μ, r, s, (EvF.bindA h).imp fun xs H1 ⟨m1, hb1, d1, μ1, M, h1⟩ => ?_⟩
    exact ⟨by rw [M.rd.length, pack_len hp M.e]; exact hn, FinF.new (xs := packOf d1) h1 M.rel M.rd⟩
theorem op_addF : OpR X (binaryOp .Add) (fun x y H Q => ∃ m hb μ a b xs, Rel X.K m hb H μ ∧ Rdv X.K m hb x a ∧ Rdv X.K m hb y b ∧ pAdd μ a b = some (.lst xs) ∧ FinF X.K m hb H μ xs Q) := by
  intro pins s σ H x y v u Q I rx ry ⟨m, hb, μ, a, b, xs, r, ra, rb, e, q⟩
  have key : ∃ xa xb, lstOf μ a = some xa ∧ lstOf μ b = some xb ∧ xa.length + xb.length ≤ sizeLine ∧ xs = xa ++ xb := by
    have fin : ∀ o1 o2 : Option (List D), (match o1, o2 with
      | some xs, some ys => if xs.length + ys.length ≤ sizeLine then some (D.lst (xs ++ ys)) else none
      | _, _ => none) = some (.lst xs) → ∃ xa xb, o1 = some xa ∧ o2 = some xb ∧ xa.length + xb.length ≤ sizeLine ∧ xs = xa ++ xb := by
      intro o1 o2 e
      cases o1 with
      | none => cases e
      | some xa =>
        cases o2 with
        | none => cases e
        | some xb =>
          simp only at e
          split at e
          · cases e; exact ⟨xa, xb, rfl, rfl, ‹_›, rfl⟩
          · cases e
    unfold pAdd at e
    split at e
    · cases e
    · split at e <;> cases e
    · split at e <;> cases e
    · exact fin _ _ e
  obtain ⟨xa, xb, e1, e2, hz, rfl⟩ := key
  obtain ⟨p1, v1, h1, h2, h3⟩ := lst_at r e1 ra
  obtain ⟨p2, v2, h4, h5, h6⟩ := lst_at r e2 rb
  exact op_catR pins s σ H x y v u Q I rx ry ⟨p1, p2, v1, v2, h1, h4, h2, h5, by rw [h3.length, h6.length]; exact hz, q.new r (h3.append h6)⟩
theorem fe_add (ha : SE X Ex Φ a A) (hb : SE X Ex Φ b B) : FE X Ex Φ (.BinOp a .Add b pos) (.bin .add A B) :=
  PE.mono (pe_op op_addF ha hb) fun σ H Q ⟨m, hb, δ, μ, r, s, h⟩ => by
    unfold evalE at h
    refine ⟨m, hb, δ, μ, r, s, (EvF.bind h).imp fun x H1 ⟨m1, hb1, d1, μ1, M, h1⟩ => ?_⟩
    refine ⟨m1, hb1, δ, μ1, M.rel, s.step M.st, (EvF.bind h1).imp fun y H2 ⟨m2, hb2, d2, μ2, M2, h2⟩ => ?_⟩
    obtain ⟨xs, e, q⟩ := EvF.rD h2
    exact ⟨m2, hb2, μ2, d1, d2, xs, M2.rel, M.rd.mono M2.st.pre M2.st.sub, M2.rd, e, q⟩
/-- a new list becomes a cell of the store -/
theorem se_alloc (h : FE X Ex Φ a A) : SE X Ex Φ a (.alloc A) :=
  PE.mono h fun σ H Q ⟨m, hb, δ, μ, r, s, h⟩ => by
    unfold evalE at h
    refine ⟨m, hb, δ, μ, r, s, ?_⟩
    generalize evalE Φ A δ μ = w at h ⊢
    match w, h with
    | .exc c p μ', h => exact h
    | .ok (.lst xs, μ'), h =>
      intro p vs m' hb' H' t r' hp hn hm rd hf
      have h : Ev X.K Ex (.ok (.ref μ'.length, μ' ++ [xs])) m hb H Q := h
      have pr : Pre m' (m' ++ [p]) := fun k a e => by rw [List.getElem?_append_left (List.getElem?_eq_some_iff.mp e).1]; exact e
      refine h (.ref p) (m' ++ [p]) hb' H' ⟨fun k a e => pr k a (t.pre k a e), t.sub, t.fr, t.keep, fun a ha => ?_, t.newb⟩ (r'.cellNew hp hn hm rd) (.ref ?_)
      · rcases List.mem_append.mp ha with z | z
        · exact t.newm a z
        · have : a = p := by simpa using z
          rw [this]; exact .inr hf
      · rw [← r'.len]; simp
/-! ### own lists read -/
theorem se_olen {x xn : Str} {i : Nat} {p1 p2 : Pos} (hm : X.mg "len" = none) (hN : X.N[i]? = some x := by rfl) (hv : Vis X.env.scope x := by first | exact Or.inl rfl | exact Or.inr (Or.inl rfl) | exact Or.inr (Or.inr rfl)) (hg : Gl X "len" := by rfl)
    (he : starEach [.Name x p2] X.env = (false, eval (.Name x p2) X.env) :: starEach [] X.env := by rfl) (hpl : (backTo pos (starEach [] X.env)).any (·.1) = false := by rfl)
    (hd : (x == ("__debug__" : Str)) = false := by decide) (hcd : (x == ("__classdict__" : Str)) = false := by decide) : SE X Ex Φ (.Call (.Name "len" p1) [.Name x p2] [] pos) (.olen i) :=
  PE.mono (pe_callB call_len_seq hg hm bt_len (pa_cons (pe_var hN hv hd hcd) pa_nil he) (by decide) (by decide) he hpl) fun σ H Q ⟨m, hb, δ, μ, r, s, h⟩ => by
    unfold evalE at h
    split at h
    · rename_i xs e
      obtain ⟨q, vs, h1, h2, h3, h4, h5⟩ := s.own i xs e
      exact ⟨_, h1, q, vs, rfl, .inl (.inl (.inl h2)), by rw [h5.length]; exact Ev.ok (d := .int _) h r (.int _)⟩
    · exact h.elim
theorem se_oidx {x : Str} {i : Nat} {p2 : Pos} (hb : SE X Ex Φ b B) (hN : X.N[i]? = some x := by rfl) (hv : Vis X.env.scope x := by first | exact Or.inl rfl | exact Or.inr (Or.inl rfl) | exact Or.inr (Or.inr rfl))
    (hd : (x == ("__debug__" : Str)) = false := by decide) (hcd : (x == ("__classdict__" : Str)) = false := by decide) (hs : PlainIx b := by exact fun _ _ => rfl) : SE X Ex Φ (.Subscript (.Name x p2) b pos) (.oidx i B) :=
  PE.mono (pe_ix ix_list (pe_var hN hv hd hcd) hb hs) fun σ H Q ⟨m, hb, δ, μ, r, s, h⟩ => by
    unfold evalE at h
    split at h
    · rename_i xs e
      obtain ⟨q, vs, h1, h2, h3, h4, h5⟩ := s.own i xs e
      refine ⟨_, h1, m, hb, δ, μ, r, s, (Ev.bind h).imp fun y H1 ⟨m1, hb1, d1, μ1, M, h6⟩ => ?_⟩
      cases d1 with
      | int j =>
        have y' := int_of M.rd
        subst y'
        obtain ⟨d, e1, fin⟩ := Ev.rD (show Ev X.K Ex (rD (atI xs j) μ1) m1 hb1 H1 Q from h6)
        obtain ⟨w, h7, h8⟩ := atI_rd h5 e1
        exact ⟨q, vs, j, w, rfl, rfl, .inl (.inl (M.st.fr q _ h2 h4)), h7, fin.here M.rel (h8.mono M.st.pre M.st.sub)⟩
      | _ => exact h6.elim
    · exact h.elim
theorem se_oin {x : Str} {i : Nat} {p2 : Pos} (hu : X.A.units + 65 < cLine) (ha : SE X Ex Φ a A) (hN : X.N[i]? = some x := by rfl) (hv : Vis X.env.scope x := by first | exact Or.inl rfl | exact Or.inr (Or.inl rfl) | exact Or.inr (Or.inr rfl))
    (hd : (x == ("__debug__" : Str)) = false := by decide) (hcd : (x == ("__classdict__" : Str)) = false := by decide) (neg : Bool) (hm : behindInMarks (if neg then .NotIn else .In) (.Name x p2) = false := by rfl) : SE X Ex Φ (.Compare a [if neg then .NotIn else .In] [.Name x p2] pos) (.oin neg A i) := by
  have key : ∀ {σ : L2.St} {H : Hp} {Q : VK}, tS X.K Ex Φ (.oin neg A i) σ H Q → tOp (rSB X.K fun μ a b => (pIn μ a b).map fun b => if neg then !b else b) (tS X.K Ex Φ A) (tVar i) σ H Q := fun {σ H Q} ⟨m, hb, δ, μ, r, s, h⟩ => by
    unfold evalE at h
    split at h
    · rename_i xs e
      obtain ⟨q, vs, h1, h2, h3, h4, h5⟩ := s.own i xs e
      refine ⟨m, hb, δ, μ, r, s, (Ev.bind h).imp fun y H1 ⟨m1, hb1, d1, μ1, M, h6⟩ => ⟨_, h1, ?_⟩⟩
      obtain ⟨b, e1, fin⟩ := Ev.rB h6
      have hq : H1 q = some (.lst vs) := M.st.fr q _ h2 h4
      have hq2 : hb1 q = none := by
        cases z : hb1 q with
        | none => rfl
        | some o =>
          rcases M.st.newb q (by rw [z]; exact fun z => by cases z) with w | w
          · exact absurd h3 w
          · rw [h2] at w; cases w
      have hq3 : q ∉ m1 := fun z => by
        rcases M.st.newm q z with w | w
        · exact h4 w
        · rw [h2] at w; cases w
      have rd5 := h5.mono M.st.pre M.st.sub
      have sb : Sub hb1 (upd hb1 q (.lst vs)) := fun a u e => by rw [upd_ne (ne_of_none e hq2)]; exact e
      exact ⟨m1, upd hb1 q (.lst vs), μ1, d1, .lst xs, b, M.rel.own hq hq2 hq3, M.rd.mono (fun _ _ e => e) sb, .lst (.inl upd_same) (rd5.mono (fun _ _ e => e) sb), e1, fin.here M.rel (.bl b)⟩
    · exact h.elim
  cases neg with
  | true => exact PE.mono (pe_cmpR (op_notinS hu) ha (pe_var hN hv hd hcd) hm) fun σ H Q h => key h
  | false =>
    refine PE.mono (pe_cmpR (op_inS hu) ha (pe_var hN hv hd hcd) hm) fun σ H Q h => ?_
    have h := key h
    simpa using h
end
end SC

set_option Elab.async false
set_option linter.all false
set_option maxRecDepth 100000
set_option maxHeartbeats 2000000
/-! SC7: the rules of the statements. -/
namespace SC
open PySem PySem.Spec PyProof.Rows L2

structure En where
  m : List Addr
  hb : Hp
  H : Hp
/-- a body's state, over the entry -/
structure At (K : PySem.W.Frag) (en : En) (δ : SC.Env) (μ : Store) (σ : L2.St) (m : List Addr) (hb H : Hp) : Prop where
  rel : Rel K m hb H μ
  sl : Slots K m hb H δ σ
  st : Step en.m en.hb en.H m hb H
  nw : ∀ (i : Nat) (s : Sl) (p : Addr), δ[i]? = some s → isOwn s = true → σ[i]? = some (some (.ref p)) → en.H p = none
def SR (K : PySem.W.Frag) (en : En) (δ : SC.Env) (μ : Store) (σ : L2.St) (H : Hp) : Prop := ∃ m hb, At K en δ μ σ m hb H
def EvS (K : PySem.W.Frag) (E : XK) (en : En) (m : List Addr) (hb : Hp) (r : RS) (D : Ends) : Prop := match r with
  | .ok (.nx, δ, μ) => ∀ σ H m' hb', At K en δ μ σ m' hb' H → Wk m hb m' hb' → D.nx σ H
  | .ok (.bk, δ, μ) => ∀ σ H m' hb', At K en δ μ σ m' hb' H → Wk m hb m' hb' → D.bk σ H
  | .ok (.ct, δ, μ) => ∀ σ H m' hb', At K en δ μ σ m' hb' H → Wk m hb m' hb' → D.ct σ H
  | .ok (.rt d, _, μ) => ∀ v m hb H, Step en.m en.hb en.H m hb H → Rel K m hb H μ → Rdv K m hb v d → D.rt v H
  | .exc c p μ => ∀ m hb H, Step en.m en.hb en.H m hb H → Rel K m hb H μ → exW K E c p H
  | .bad => False
def tSS (K : PySem.W.Frag) (E : XK) (Φ : Fn) (en : En) (A : S) : TS := fun D σ H => ∃ δ μ m hb, At K en δ μ σ m hb H ∧ EvS K E en m hb (evalS Φ A δ μ) D
def SS (X : Cx) (E : XK) (Φ : Fn) (en : En) (st : Stmt) (A : S) : Prop := PS X st (tSS X.K E Φ en A)
def SSs (X : Cx) (E : XK) (Φ : Fn) (en : En) (st : List Stmt) (A : S) : Prop := PSs X st (tSS X.K E Φ en A)

section
variable {K : PySem.W.Frag} {E : XK} {en : En} {δ : SC.Env} {μ μ1 : Store} {σ : L2.St} {m m1 : List Addr} {hb hb1 H H1 : Hp} {D : Ends}
theorem At.step (a : At K en δ μ σ m hb H) (s : Step m hb H m1 hb1 H1) (r : Rel K m1 hb1 H1 μ1) : At K en δ μ1 σ m1 hb1 H1 := ⟨r, a.sl.step s, a.st.trans s, a.nw⟩
theorem EvS.wk {r : RS} (h : EvS K E en m hb r D) (w : Wk m hb m1 hb1) : EvS K E en m1 hb1 r D := by
  match r, h with
  | .ok (.nx, δ, μ), h => exact fun σ H m' hb' a w' => h σ H m' hb' a (w.trans w')
  | .ok (.bk, δ, μ), h => exact fun σ H m' hb' a w' => h σ H m' hb' a (w.trans w')
  | .ok (.ct, δ, μ), h => exact fun σ H m' hb' a w' => h σ H m' hb' a (w.trans w')
  | .ok (.rt d, δ, μ), h => exact h
  | .exc c p μ, h => exact h
theorem EvS.go (h : EvS K E en m hb (.ok (.nx, δ, μ)) D) (a : At K en δ μ σ m hb H) : D.nx σ H := h σ H m hb a .refl
/-- an expression first -/
theorem EvS.bindE {r : Res (SC.D × Store)} {f : SC.D × Store → RS} (a : At K en δ μ σ m hb H) (h : EvS K E en m hb (r.bind f) D) :
    Ev K E r m hb H fun v H1 => ∃ d μ1 m1 hb1, Mid K m hb H r v H1 m1 hb1 d μ1 ∧ At K en δ μ1 σ m1 hb1 H1 ∧ EvS K E en m1 hb1 (f (d, μ1)) D := by
  match r, h with
  | .ok (d, μ'), h => exact fun v m' hb' H' s r rd => ⟨d, μ', m', hb', ⟨rfl, s, r, rd⟩, a.step s r, EvS.wk (r := f (d, μ')) h s.wk⟩
  | .exc c p μ', h => exact fun m' hb' H' s r => h m' hb' H' (a.st.trans s) r
theorem EvS.bindF {r : Res (SC.D × Store)} {f : SC.D × Store → RS} (hf : ∀ d μ, (∀ xs, d ≠ .lst xs) → f (d, μ) = .bad) (a : At K en δ μ σ m hb H) (h : EvS K E en m hb (r.bind f) D) :
    EvF K E r m hb H fun v H1 => ∃ p vs xs μ1 m1 hb1, v = .ref p ∧ At K en δ μ1 σ m1 hb1 H1 ∧ H1 p = some (.lst vs) ∧ hb1 p = none ∧ p ∉ m1 ∧ RdAll K m1 hb1 vs xs ∧ H p = none ∧ EvS K E en m1 hb1 (f (.lst xs, μ1)) D := by
  match r, h with
  | .ok (.lst xs, μ'), h => exact fun p vs m' hb' H' s r hp hn hm rd hf' => ⟨p, vs, xs, μ', m', hb', rfl, a.step s r, hp, hn, hm, rd, hf', EvS.wk (r := f (.lst xs, μ')) h s.wk⟩
  | .exc c p μ', h => exact fun m' hb' H' s r => h m' hb' H' (a.st.trans s) r
  | .ok (.non, μ'), h => have z : EvS K E en m hb (f (.non, μ')) D := h; rw [hf _ _ (fun xs e => by cases e)] at z; exact z.elim
  | .ok (.bl b, μ'), h => have z : EvS K E en m hb (f (.bl b, μ')) D := h; rw [hf _ _ (fun xs e => by cases e)] at z; exact z.elim
  | .ok (.int b, μ'), h => have z : EvS K E en m hb (f (.int b, μ')) D := h; rw [hf _ _ (fun xs e => by cases e)] at z; exact z.elim
  | .ok (.str b, μ'), h => have z : EvS K E en m hb (f (.str b, μ')) D := h; rw [hf _ _ (fun xs e => by cases e)] at z; exact z.elim
  | .ok (.tup b, μ'), h => have z : EvS K E en m hb (f (.tup b, μ')) D := h; rw [hf _ _ (fun xs e => by cases e)] at z; exact z.elim
  | .ok (.dct b c, μ'), h => have z : EvS K E en m hb (f (.dct b c, μ')) D := h; rw [hf _ _ (fun xs e => by cases e)] at z; exact z.elim
  | .ok (.ref b, μ'), h => have z : EvS K E en m hb (f (.ref b, μ')) D := h; rw [hf _ _ (fun xs e => by cases e)] at z; exact z.elim
  | .ok (.scr b, μ'), h => have z : EvS K E en m hb (f (.scr b, μ')) D := h; rw [hf _ _ (fun xs e => by cases e)] at z; exact z.elim
theorem EvS.bindT {r : Res (SC.D × Store)} {f : Bool × Store → RS} (a : At K en δ μ σ m hb H) (h : EvS K E en m hb ((evT r).bind f) D) :
    EvT K E (evT r) m hb H fun b H1 => ∃ μ1 m1 hb1, At K en δ μ1 σ m1 hb1 H1 ∧ EvS K E en m1 hb1 (f (b, μ1)) D := by
  match r, h with
  | .ok (.bl b, μ'), h => exact fun m' hb' H' s r => ⟨μ', m', hb', a.step s r, EvS.wk (r := f (b, μ')) h s.wk⟩
  | .exc c p μ', h => exact fun m' hb' H' s r => h m' hb' H' (a.st.trans s) r
/-- a slot set to a value -/
theorem At.set {i : Nat} {v : V} {d : SC.D} (a : At K en δ μ σ m hb H) (r : Rdv K m hb v d) : At K en (δ.set i (.val d)) μ (σ.set i (some v)) m hb H := by
  refine ⟨a.rel, a.sl.set r, a.st, fun j s p e ow q => ?_⟩
  by_cases hj : j = i
  · subst hj
    by_cases hl : j < δ.length
    · rw [List.getElem?_set_self hl] at e; cases e; cases ow
    · rw [List.getElem?_eq_none (by simpa using hl)] at e; cases e
  · rw [List.getElem?_set_ne (Ne.symm hj)] at e q
    exact a.nw j s p e ow q
/-- a slot set to a new list of its own -/
theorem At.own {i : Nat} {p : Addr} {vs : List V} {xs : List SC.D} (a : At K en δ μ σ m hb H) (hp : H p = some (.lst vs)) (hn : hb p = none) (hm : p ∉ m) (rd : RdAll K m hb vs xs) (h0 : en.H p = none)
    (ap : ∀ (j : Nat) (s : Sl), δ[j]? = some s → isOwn s = true → σ[j]? ≠ some (some (.ref p))) : At K en (δ.set i (.own xs)) μ (σ.set i (some (.ref p))) m hb H := by
  have low : ∀ {j : Nat} {t : Sl}, j ≠ i → (δ.set i (.own xs))[j]? = some t → δ[j]? = some t := fun {j t} hj e => by rwa [List.getElem?_set_ne (Ne.symm hj)] at e
  have at_i : ∀ {t : Sl}, (δ.set i (.own xs))[i]? = some t → t = .own xs ∧ (σ.set i (some (.ref p)))[i]? = some (some (.ref p)) := fun {t} e => by
    by_cases hl : i < δ.length
    · rw [List.getElem?_set_self hl] at e; cases e
      exact ⟨rfl, List.getElem?_set_self (by rw [← a.sl.len]; exact hl)⟩
    · rw [List.getElem?_eq_none (by simpa using hl)] at e; cases e
  refine ⟨a.rel, ⟨by simpa using a.sl.len, fun j x e => ?_, fun j ys e => ?_, fun j kd ks ws e => ?_, fun j l s t q hne e1 e2 o1 o2 q1 => ?_⟩, a.st, fun j s q e ow q1 => ?_⟩
  · by_cases hj : j = i
    · subst hj; cases (at_i e).1
    · obtain ⟨w, h1, h2⟩ := a.sl.val j x (low hj e)
      exact ⟨w, by rw [List.getElem?_set_ne (Ne.symm hj)]; exact h1, h2⟩
  · by_cases hj : j = i
    · subst hj
      obtain ⟨e1, e2⟩ := at_i e
      cases e1
      exact ⟨p, vs, e2, hp, hn, hm, rd⟩
    · obtain ⟨q, us, h1, h2⟩ := a.sl.own j ys (low hj e)
      exact ⟨q, us, by rw [List.getElem?_set_ne (Ne.symm hj)]; exact h1, h2⟩
  · by_cases hj : j = i
    · subst hj; cases (at_i e).1
    · exact a.sl.ownd j kd ks ws (low hj e)
  · by_cases hj : j = i
    · subst hj
      rw [(at_i e1).2] at q1
      cases q1
      rw [List.getElem?_set_ne hne]
      exact ap l t (low (Ne.symm hne) e2) o2
    · rw [List.getElem?_set_ne (Ne.symm hj)] at q1
      by_cases hl : l = i
      · subst hl
        rw [(at_i e2).2]
        intro z
        cases z
        exact ap j s (low hj e1) o1 q1
      · rw [List.getElem?_set_ne (Ne.symm hl)]
        exact a.sl.sep j l s t q hne (low hj e1) (low hl e2) o1 o2 q1
  · by_cases hj : j = i
    · subst hj
      rw [(at_i e).2] at q1
      cases q1
      exact h0
    · rw [List.getElem?_set_ne (Ne.symm hj)] at q1
      exact a.nw j s q (low hj e) ow q1
/-- what is new is no own list -/
theorem At.apart {p : Addr} (a : At K en δ μ σ m hb H) (hp : H p = none) : ∀ (j : Nat) (s : Sl), δ[j]? = some s → isOwn s = true → σ[j]? ≠ some (some (.ref p)) := fun j s e ow q => by
  cases s with
  | own xs =>
    obtain ⟨q', vs, h1, h2, _⟩ := a.sl.own j xs e
    rw [q] at h1
    cases h1
    rw [hp] at h2
    cases h2
  | ownd kd ks vs => exact a.sl.ownd j kd ks vs e
  | no => cases ow
  | val _ => cases ow
/-- an own list written -/
theorem At.wrOwn {i : Nat} {p : Addr} {vs ws : List V} {xs ys : List SC.D} (a : At K en δ μ σ m hb H) (e : δ[i]? = some (.own xs)) (hs : σ[i]? = some (some (.ref p))) (rd : RdAll K m hb ws ys) : At K en (δ.set i (.own ys)) μ σ m hb (upd H p (.lst ws)) := by
  obtain ⟨p', us, h1, h2, h3, h4, h5⟩ := a.sl.own i xs e
  rw [hs] at h1
  cases h1
  have h0 := a.nw i _ p e rfl hs
  have hi : i < δ.length := (List.getElem?_eq_some_iff.mp e).1
  have low : ∀ {j : Nat} {t : Sl}, j ≠ i → (δ.set i (.own ys))[j]? = some t → δ[j]? = some t := fun {j t} hj e => by rwa [List.getElem?_set_ne (Ne.symm hj)] at e
  have ati : (δ.set i (.own ys))[i]? = some (.own ys) := List.getElem?_set_self hi
  refine ⟨a.rel.put h3 h4, ⟨by simpa using a.sl.len, fun j x e => ?_, fun j zs ej => ?_, fun j kd ks ws e => ?_, fun j l s t q hne e1 e2 o1 o2 q1 => ?_⟩, a.st.updOwn h0, fun j s q ej ow q1 => ?_⟩
  · by_cases hj : j = i
    · subst hj; rw [ati] at e; cases e
    · exact a.sl.val j x (low hj e)
  · by_cases hj : j = i
    · subst hj; rw [ati] at ej; cases ej
      exact ⟨p, ws, hs, upd_same, h3, h4, rd⟩
    · obtain ⟨q, us', k1, k2, k3, k4, k5⟩ := a.sl.own j zs (low hj ej)
      have hqp : q ≠ p := fun z => a.sl.sep i j _ _ p (Ne.symm hj) e (low hj ej) rfl rfl hs (by rw [k1, z])
      exact ⟨q, us', k1, by rw [upd_ne hqp]; exact k2, k3, k4, k5⟩
  · by_cases hj : j = i
    · subst hj; rw [ati] at e; cases e
    · exact a.sl.ownd j kd ks ws (low hj e)
  · have key : ∀ {j : Nat} {s : Sl}, (δ.set i (.own ys))[j]? = some s → isOwn s = true → ∃ s', δ[j]? = some s' ∧ isOwn s' = true := fun {j s} e o => by
      by_cases hj : j = i
      · subst hj; exact ⟨_, by assumption, rfl⟩
      · exact ⟨s, low hj e, o⟩
    obtain ⟨s', e1', o1'⟩ := key e1 o1
    obtain ⟨t', e2', o2'⟩ := key e2 o2
    exact a.sl.sep j l s' t' q hne e1' e2' o1' o2' q1
  · by_cases hj : j = i
    · subst hj; rw [hs] at q1; cases q1; exact h0
    · exact a.nw j s q (low hj ej) ow q1
/-- a cell of the store written -/
theorem At.wrCell {k : Nat} {p : Addr} {ws : List V} {ys : List SC.D} (a : At K en δ μ σ m hb H) (e : m[k]? = some p) (rd : RdAll K m hb ws ys) : At K en δ (μ.set k ys) σ m hb (upd H p (.lst ws)) :=
  a.step (Step.wr e) (a.rel.wr (vs := ws) e rd)
/-- an own list is only read from now on -/
theorem At.frz {i : Nat} {xs : List SC.D} (a : At K en δ μ σ m hb H) (e : δ[i]? = some (.own xs)) : ∃ hb', Wk m hb m hb' ∧ At K en (δ.set i (.val (.lst xs))) μ σ m hb' H := by
  obtain ⟨p, vs, h1, h2, h3, h4, h5⟩ := a.sl.own i xs e
  have h0 := a.nw i _ p e rfl h1
  have hi : i < δ.length := (List.getElem?_eq_some_iff.mp e).1
  have sb : Sub hb (upd hb p (.lst vs)) := fun a u e => by rw [upd_ne (ne_of_none e h3)]; exact e
  have pr : Pre m m := fun _ _ e => e
  have low : ∀ {j : Nat} {t : Sl}, j ≠ i → (δ.set i (.val (.lst xs)))[j]? = some t → δ[j]? = some t := fun {j t} hj e => by rwa [List.getElem?_set_ne (Ne.symm hj)] at e
  have ati : (δ.set i (.val (.lst xs)))[i]? = some (.val (.lst xs)) := List.getElem?_set_self hi
  have ine : ∀ {j : Nat} {t : Sl}, (δ.set i (.val (.lst xs)))[j]? = some t → isOwn t = true → j ≠ i := fun {j t} e o z => by subst z; rw [ati] at e; cases e; cases o
  refine ⟨upd hb p (.lst vs), ⟨pr, sb⟩, a.rel.own h2 h3 h4, ⟨by simpa using a.sl.len, fun j x ej => ?_, fun j zs ej => ?_, fun j kd ks ws ej => ?_, fun j l s t q hne e1 e2 o1 o2 q1 => ?_⟩, ?_, fun j s q ej ow q1 => ?_⟩
  · by_cases hj : j = i
    · subst hj; rw [ati] at ej; cases ej
      exact ⟨_, h1, .lst (.inl upd_same) (h5.mono pr sb)⟩
    · obtain ⟨v, k1, k2⟩ := a.sl.val j x (low hj ej)
      exact ⟨v, k1, k2.mono pr sb⟩
  · have hj := ine ej rfl
    obtain ⟨q, us, k1, k2, k3, k4, k5⟩ := a.sl.own j zs (low hj ej)
    have hqp : q ≠ p := fun z => a.sl.sep i j _ _ p (Ne.symm hj) e (low hj ej) rfl rfl h1 (by rw [k1, z])
    exact ⟨q, us, k1, k2, by rw [upd_ne hqp]; exact k3, k4, k5.mono pr sb⟩
  · exact a.sl.ownd j kd ks ws (low (ine ej rfl) ej)
  · exact a.sl.sep j l s t q hne (low (ine e1 o1) e1) (low (ine e2 o2) e2) o1 o2 q1
  · refine ⟨a.st.pre, fun b u e => ?_, a.st.fr, a.st.keep, a.st.newm, fun b e => ?_⟩
    · exact sb b u (a.st.sub b u e)
    · by_cases hb : b = p
      · subst hb; exact .inr h0
      · rw [upd_ne hb] at e; exact a.st.newb b e
  · exact a.nw j s q (low (ine ej ow) ej) ow q1
end
section
variable {X : Cx} {Ex : XK} {Φ : Fn} {en : En} {st : Stmt} {sts : List Stmt} {a b c : Expr} {A B C : SC.E} {S1 S2 : S} {pos p : Pos}
theorem sss_nil : SSs X Ex Φ en [] .skip := PSs.mono pss_nil fun D σ H ⟨δ, μ, m, hb, a, h⟩ => EvS.go h a
theorem sss_one (h : SS X Ex Φ en st S1) : SSs X Ex Φ en [st] S1 := pss_one h
theorem sss_cons (h1 : SS X Ex Φ en st S1) (h2 : SSs X Ex Φ en sts S2) : SSs X Ex Φ en (st :: sts) (.seq S1 S2) :=
  PSs.mono (pss_cons h1 h2) fun D σ H ⟨δ, μ, m, hb, a, h⟩ => by
    refine ⟨δ, μ, m, hb, a, ?_⟩
    unfold evalS at h
    generalize evalS Φ S1 δ μ = r at h ⊢
    match r, h with
    | .ok (.nx, δ1, μ1), h => exact fun σ' H' m' hb' a' w => ⟨δ1, μ1, m', hb', a', EvS.wk (r := evalS Φ S2 δ1 μ1) h w⟩
    | .ok (.bk, δ1, μ1), h => exact h
    | .ok (.ct, δ1, μ1), h => exact h
    | .ok (.rt d, δ1, μ1), h => exact h
    | .exc _ _ _, h => exact h
theorem ss_expr (h : SE X Ex Φ a A) (hs : swapsWith a none pos.line X.env = pure false := by rfl) : SS X Ex Φ en (.Expr a pos) (.expr A) :=
  PS.mono (ps_expr h hs) fun D σ H ⟨δ, μ, m, hb, a, h⟩ => by
    unfold evalS at h
    refine ⟨m, hb, δ, μ, a.rel, a.sl, (EvS.bindE a h).imp fun v H1 ⟨d, μ1, m1, hb1, M, a1, h1⟩ => EvS.go h1 a1⟩
theorem ss_pass : SS X Ex Φ en (.Pass pos) .skip := PS.mono ps_pass fun D σ H ⟨δ, μ, m, hb, a, h⟩ => EvS.go h a
theorem ss_ret (h : SE X Ex Φ a A) : SS X Ex Φ en (.Return (some a) pos) (.ret A) :=
  PS.mono (ps_ret h) fun D σ H ⟨δ, μ, m, hb, a, h⟩ => by
    unfold evalS at h
    refine ⟨m, hb, δ, μ, a.rel, a.sl, (EvS.bindE a h).imp fun v H1 ⟨d, μ1, m1, hb1, M, a1, h1⟩ => h1 v m1 hb1 H1 a1.st a1.rel M.rd⟩
theorem ss_if (hc : ST X Ex Φ c C) (ha : SSs X Ex Φ en sts S1) {sts' : List Stmt} (hb : SSs X Ex Φ en sts' S2) : SS X Ex Φ en (.If c sts sts' pos) (.ife C S1 S2) :=
  PS.mono (ps_if hc ha hb) fun D σ H ⟨δ, μ, m, hb, a, h⟩ => by
    unfold evalS at h
    refine ⟨m, hb, δ, μ, a.rel, a.sl, (EvS.bindT (f := fun t => if t.1 then evalS Φ S1 δ t.2 else evalS Φ S2 δ t.2) a h).imp fun b H1 ⟨μ1, m1, hb1, a1, h1⟩ => ?_⟩
    cases b with
    | true => exact iteT ⟨δ, μ1, m1, hb1, a1, h1⟩
    | false => exact iteF ⟨δ, μ1, m1, hb1, a1, h1⟩
/-- name = e -/
theorem ss_set {i : Nat} {x : Str} {pos' : Pos} (hN : X.N.Nodup) (h : SE X Ex Φ a A) (hi : X.N[i]? = some x := by rfl) (hx : Loc X.env.scope x := by first | exact Or.inl rfl | exact Or.inr rfl) (hs : swapsWith a (some (.Name x pos')) pos.line X.env = pure false := by rfl)
    (hf : X.fn x = true ∨ X.env.scope.names.lookup x = some .local := by first | exact .inl rfl | exact .inr rfl) : SS X Ex Φ en (.Assign [.Name x pos'] a pos) (.set [i] A) :=
  PS.mono (ps_set hN hi hx h hs hf) fun D σ H ⟨δ, μ, m, hb, a, h⟩ => by
    unfold evalS at h
    refine ⟨m, hb, δ, μ, a.rel, a.sl, (EvS.bindE a h).imp fun v H1 ⟨d, μ1, m1, hb1, M, a1, h1⟩ => ?_⟩
    exact EvS.go h1 (a1.set M.rd)
/-- name = [..], on one line -/
theorem ss_setLc {i : Nat} {x : Str} {py spos : Pos} {elt tg iter : Expr} {ifs : List Expr} {scope : Scope} (own : List (Str × Nat)) {is : List Nat} {kd : IK} {As Cnd Elt : SC.E} (hc : X.calm = true) (hN : X.N.Nodup) (hi : SI X Ex Φ tg iter kd As) (ok : BlkOk X.N X.env.scope scope own)
    (hg : ∀ (s : Shared) (H : Hp) (C : Addr) (cl : List (Str × Addr)) (fp : List Addr), SG (X.blk s H scope (compEnvC scope cl C X.env) fp) tg is) (ht : ∀ (s : Shared) (H : Hp) (C : Addr) (cl : List (Str × Addr)) (fp : List Addr), STs (X.blk s H scope (compEnvC scope cl C X.env) fp) E0 Φ ifs Cnd)
    (he : ∀ (s : Shared) (H : Hp) (C : Addr) (cl : List (Str × Addr)) (fp : List Addr), SE (X.blk s H scope (compEnvC scope cl C X.env) fp) E0 Φ elt Elt) (hsw : swapsWith (.ListComp elt [⟨tg, iter, ifs, 0⟩] scope pos) (some (.Name x py)) spos.line X.env = pure true)
    (hy : X.N[i]? = some x := by rfl) (hyl : X.env.scope.names.lookup x = some .local := by rfl) {ow : List Nat} (how : own.map (·.2) = ow := by rfl) (hsub : ∀ i ∈ is, i ∈ ow := by decide) (hs : ∀ x, foldedSetIterable iter X.env x = pure x := by intro _; rfl) :
    SS X Ex Φ en (.Assign [.Name x py] (.ListComp elt [⟨tg, iter, ifs, 0⟩] scope pos) spos) (.set [i] (.comp ow is kd As Cnd Elt)) := by
  subst how
  refine PS.mono (ps_setLc (g := tSG X.K is) (tt := fun σ H Q => ∃ m hb δ μ, Rel X.K m hb H μ ∧ Slots X.K m hb H δ σ ∧ EvT X.K E0 (condE Cnd (evalE Φ Cnd δ μ) μ) m hb H Q) (te := tS X.K E0 Φ Elt) hc hN hy hyl hsw hi ok hg ht he hs) fun D σ H ⟨δ, μ, m, hb, a, h⟩ => ?_
  unfold evalS at h
  refine comp_core hsub a.rel a.sl ?_
  have h := (EvS.bindE a h).imp (Q' := fun v H1 => gName i v σ H1 D.nx) fun v H1 ⟨d, μ1, m1, hb1, M, a1, h1⟩ => EvS.go h1 (a1.set M.rd)
  cases ew : evalE Φ (.comp (own.map (·.2)) is kd As Cnd Elt) δ μ with
  | ok p =>
    obtain ⟨d, μ'⟩ := p
    obtain ⟨xs, rfl⟩ := comp_lst ew
    rw [ew] at h
    exact Fin.toF h
  | exc c p μ' => rw [ew] at h; exact h
  | bad => rw [ew] at h; exact h.elim
theorem bindAll_at : ∀ (is : List Nat) (xs : List D) (δ δ' : SC.Env), bindAll is xs δ = some δ' → ∀ (j : Nat) (s : Sl), δ'[j]? = some s → isOwn s = true → δ[j]? = some s ∧ j ∉ is
  | [], [], δ, δ', e, j, s, h, o => by cases e; exact ⟨h, by simp⟩
  | [], _ :: _, _, _, e, _, _, _, _ => by cases e
  | _ :: _, [], _, _, e, _, _, _, _ => by cases e
  | i :: is, x :: xs, δ, δ', e, j, s, h, o => by
    obtain ⟨h1, h2⟩ := bindAll_at is xs _ δ' e j s h o
    have hj : j ≠ i := fun z => by
      subst z
      by_cases hl : j < δ.length
      · rw [List.getElem?_set_self hl] at h1; cases h1; cases o
      · rw [List.getElem?_eq_none (by simpa using hl)] at h1; cases h1
    rw [List.getElem?_set_ne (Ne.symm hj)] at h1
    exact ⟨h1, by simp [hj, h2]⟩
theorem bindT_at (is : List Nat) (x : D) (δ δ' : SC.Env) (e : bindT is x δ = some δ') (j : Nat) (s : Sl) (h : δ'[j]? = some s) (o : isOwn s = true) : δ[j]? = some s ∧ j ∉ is := by
  unfold bindT at e
  split at e
  · rename_i i
    cases e
    have hj : j ≠ i := fun z => by
      subst z
      by_cases hl : j < δ.length
      · rw [List.getElem?_set_self hl] at h; cases h; cases o
      · rw [List.getElem?_eq_none (by simpa using hl)] at h; cases h
    rw [List.getElem?_set_ne (Ne.symm hj)] at h
    exact ⟨h, by simp [hj]⟩
  · split at e
    · exact bindAll_at _ _ _ _ e j s h o
    · cases e
/-- behind a target's store -/
theorem At.bound {K : PySem.W.Frag} {δ δ' : SC.Env} {μ : Store} {σ σ' : L2.St} {m : List Addr} {hb H : Hp} {is : List Nat} {x : D} (a : At K en δ μ σ m hb H) (e : bindT is x δ = some δ') (s : Slots K m hb H δ' σ') (sa : SetAt is σ σ') : At K en δ' μ σ' m hb H :=
  ⟨a.rel, s, a.st, fun j t p h o q => by
    obtain ⟨h1, h2⟩ := bindT_at is x δ δ' e j t h o
    rw [sa.2 j h2] at q
    exact a.nw j t p h1 o q⟩
/-- target = e, the target of several names -/
theorem ss_setT {tg : Expr} {is : List Nat} (h : SE X Ex Φ a A) (hg : SG X tg is) (hs : swapsWithSole [tg] a pos.line X.env = pure false := by rfl) (hw : swappedStores [tg] a X.env = pure none := by rfl) (h1 : (assignEach [tg] X.env).map (·.2) = [assign tg X.env] := by rfl) :
    SS X Ex Φ en (.Assign [tg] a pos) (.set is A) :=
  PS.mono (ps_asg h hg hs hw h1) fun D σ H ⟨δ, μ, m, hb, a, h⟩ => by
    unfold evalS at h
    refine ⟨m, hb, δ, μ, a.rel, a.sl, (EvS.bindE a h).imp fun v H1 ⟨d, μ1, m1, hb1, M, a1, h1⟩ => ?_⟩
    split at h1
    · rename_i δ1 e
      exact ⟨m1, hb1, δ, μ1, d, δ1, a1.rel, a1.sl, M.rd, e, fun σ' s' sa => EvS.go h1 (At.bound a1 e s' sa)⟩
    · exact h1.elim
/-- name = a new list of its own -/
theorem ss_own {i : Nat} {x : Str} {pos' : Pos} (hN : X.N.Nodup) (h : FE X Ex Φ a A) (hi : X.N[i]? = some x := by rfl) (hx : Loc X.env.scope x := by first | exact Or.inl rfl | exact Or.inr rfl) (hs : swapsWith a (some (.Name x pos')) pos.line X.env = pure false := by rfl)
    (hf : X.fn x = true ∨ X.env.scope.names.lookup x = some .local := by first | exact .inl rfl | exact .inr rfl) : SS X Ex Φ en (.Assign [.Name x pos'] a pos) (.own i 1 A) :=
  PS.mono (ps_set hN hi hx h hs hf) fun D σ H ⟨δ, μ, m, hb, a, h⟩ => by
    unfold evalS at h
    refine ⟨m, hb, δ, μ, a.rel, a.sl, ?_⟩
    have h := EvS.bindF (fun d μ hd => by cases d <;> first | rfl | exact absurd rfl (hd _)) a h
    generalize evalE Φ A δ μ = w at h ⊢
    match w, h with
    | .exc c p μ', h => exact h
    | .ok (.lst xs, μ'), h =>
      intro p vs m' hb' H' t r hp hn hm rd hf'
      obtain ⟨p', vs', xs', μ1, m1, hb1, e, a1, k1, k2, k3, k4, k5, h1⟩ := h p vs m' hb' H' t r hp hn hm rd hf'
      cases e
      refine EvS.go h1 (a1.own k1 k2 k3 k4 ?_ ?_)
      · cases z : en.H p with
        | none => rfl
        | some o => exact absurd k5 (a.st.keep p (by rw [z]; exact fun z => by cases z))
      · exact a.apart k5
end
end SC

set_option Elab.async false
set_option linter.all false
set_option maxRecDepth 100000
set_option maxHeartbeats 2000000
/-! SC8: the rest of the statements, the defs. -/
namespace SC
open PySem PySem.Spec PyProof.Rows L2
section
variable {X : Cx} {Ex : XK} {Φ : Fn} {en : En} {st : Stmt} {sts : List Stmt} {a b c : Expr} {A B C : SC.E} {S1 S2 : S} {pos p : Pos}
theorem tSS_frz {i : Nat} {K : PySem.W.Frag} {D : Ends} {σ : L2.St} {H : Hp} (h : tSS K Ex Φ en (.frz i S1) D σ H) : tSS K Ex Φ en S1 D σ H := by
  obtain ⟨δ, μ, m, hb, a, h⟩ := h
  unfold evalS at h
  split at h
  · rename_i xs e
    obtain ⟨hb', w, a'⟩ := a.frz e
    exact ⟨_, μ, m, hb', a', h.wk w⟩
  · rename_i ks vs e
    exact absurd e (a.sl.ownd _ _ _ _)
  · exact h.elim
theorem ss_frz {i : Nat} (h : SS X Ex Φ en st S1) : SS X Ex Φ en st (.frz i S1) := PS.mono h fun _ _ _ h => tSS_frz h
theorem sss_frz {i : Nat} (h : SSs X Ex Φ en sts S1) : SSs X Ex Φ en sts (.frz i S1) := PSs.mono h fun _ _ _ h => tSS_frz h
theorem ss_raise {s : String} : SS X E0 Φ en st (.raise s) := PS.mono ps_never fun D σ H ⟨δ, μ, m, hb, a, h⟩ => (h m hb H a.st a.rel).2
/-- x.append(e), x a list of its own -/
theorem ss_app {i : Nat} {x : Str} {xp apos cpos : Pos} (h : SE X Ex Φ a A) (hN : X.N[i]? = some x := by rfl) (hv : Vis X.env.scope x := by first | exact Or.inl rfl | exact Or.inr (Or.inl rfl) | exact Or.inr (Or.inr rfl)) (hd : (x == ("__debug__" : Str)) = false := by decide)
    (hcd : (x == ("__classdict__" : Str)) = false := by decide)
    (hbase : attributeBase (.Name x xp) "append" X.env (eval (.Name x xp) X.env) = eval (.Name x xp) X.env := by rfl)
    (hfew : ((backTo cpos (starEach [a] X.env)).all (fun x => !x.1) && (backToKw cpos (keywordEach [] X.env)).all (fun x => x.1.isSome) && decide (([a].length + ([] : List Keyword).length + if ([] : List Keyword).isEmpty = true then 0 else 1) < 30)) = true := by rfl)
    (hline : (apos.endLine == cpos.line) = true := by rfl) (hs : starEach [a] X.env = (false, eval a X.env) :: starEach [] X.env := by rfl) (hpl : (backTo cpos (starEach [] X.env)).any (·.1) = false := by rfl)
    (hsw : swapsWith (.Call (.Attribute (.Name x xp) "append" apos) [a] [] cpos) none pos.line X.env = pure false := by rfl) :
    SS X Ex Φ en (.Expr (.Call (.Attribute (.Name x xp) "append" apos) [a] [] cpos) pos) (.app i A) :=
  PS.mono (ps_expr (pe_bm PySem.F.plainAttrs_list PySem.F.slot_list_append PySem.F.type_list_append mt_append (pe_var hN hv hd hcd) (pa_cons h pa_nil hs) hbase hfew hline hs hpl) hsw) fun D σ H ⟨δ, μ, m, hb, a, h⟩ => by
    unfold evalS at h
    split at h
    · rename_i xs e
      obtain ⟨q, vs, h1, h2, h3, h4, h5⟩ := a.sl.own _ xs e
      refine ⟨_, h1, .inl ⟨rfl, vs, .inl (.inl h2)⟩, m, hb, δ, μ, a.rel, a.sl, (EvS.bindE a h).imp fun v H1 ⟨d, μ1, m1, hb1, M, a1, k⟩ => ?_⟩
      obtain ⟨q', ws, k1, k2, k3, k4, k5⟩ := a1.sl.own _ xs e
      rw [h1] at k1
      cases k1
      simp only at k
      split at k
      · rename_i hz
        refine ⟨q, ws, v, rfl, rfl, k2, by rw [k5.length]; exact hz, ?_⟩
        exact EvS.go k (a1.wrOwn (vs := ws) e h1 (k5.append (.cons M.rd .nil)))
      · exact k.elim
    · exact h.elim
theorem Rdv.intOf {K : PySem.W.Frag} {m : List Addr} {hb : Hp} {v : V} {d : SC.D} {j : Int} (h : Rdv K m hb v d) (e : rI d = .ok j) : v = .int j := by
  cases d <;> cases e
  cases h
  rfl
/-- x[i] = e, x a list of its own -/
theorem ss_setO {i : Nat} {x : Str} {xp sp : Pos} (h : SE X Ex Φ a A) (hi : SE X Ex Φ b B) (hN : X.N[i]? = some x := by rfl) (hv : Vis X.env.scope x := by first | exact Or.inl rfl | exact Or.inr (Or.inl rfl) | exact Or.inr (Or.inr rfl)) (hd : (x == ("__debug__" : Str)) = false := by decide)
    (hcd : (x == ("__classdict__" : Str)) = false := by decide)
    (ha : ∀ v, assign (.Subscript (.Name x xp) b sp) X.env v = (do
      let ov ← holding [v] (eval (.Name x xp) X.env)
      let iv ← holding [v, ov] (eval b X.env)
      standAt sp
      holding [v, ov, iv] (setItem ov iv v)
      release [v, ov, iv] []) := by intro _; rfl)
    (hs : swapsWithSole [.Subscript (.Name x xp) b sp] a pos.line X.env = pure false := by rfl) (hw : swappedStores [.Subscript (.Name x xp) b sp] a X.env = pure none := by rfl) (h1 : (assignEach [.Subscript (.Name x xp) b sp] X.env).map (·.2) = [assign (.Subscript (.Name x xp) b sp) X.env] := by rfl) :
    SS X Ex Φ en (.Assign [.Subscript (.Name x xp) b sp] a pos) (.setO i B A) :=
  PS.mono (ps_asg h (pg_sub (pe_var hN hv hd hcd) hi set_list ha) hs hw h1) fun D σ H ⟨δ, μ, m, hb, a, h⟩ => by
    unfold evalS at h
    split at h
    · rename_i xs e
      obtain ⟨q, vs, g1, g2, g3, g4, g5⟩ := a.sl.own _ xs e
      refine ⟨m, hb, δ, μ, a.rel, a.sl, (EvS.bindE a h).imp fun v H1 ⟨d, μ1, m1, hb1, M, a1, k⟩ => ?_⟩
      refine ⟨_, g1, m1, hb1, δ, μ1, a1.rel, a1.sl, (EvS.bindE a1 k).imp fun w H2 ⟨d2, μ2, m2, hb2, M2, a2, k2⟩ => ?_⟩
      obtain ⟨q', ws, l1, l2, l3, l4, l5⟩ := a2.sl.own _ xs e
      rw [g1] at l1
      cases l1
      simp only at k2
      cases ej : rI d2 with
      | ok j =>
        rw [ej] at k2
        cases ek : ixN xs.length j with
        | some n =>
          have k2 : EvS X.K Ex en m2 hb2 (match ixN xs.length j with | some k => .ok (.nx, δ.set i (.own (xs.set k d)), μ2) | none => .bad) D := k2
          rw [ek] at k2
          refine ⟨q, ws, j, n, rfl, M2.rd.intOf ej, l2, by rw [l5.length]; exact ek, ?_⟩
          exact EvS.go k2 (a2.wrOwn (vs := ws) e g1 (l5.set n (M.rd.mono M2.st.pre M2.st.sub)))
        | none =>
          have k2 : EvS X.K Ex en m2 hb2 (match ixN xs.length j with | some k => .ok (.nx, δ.set i (.own (xs.set k d)), μ2) | none => .bad) D := k2
          rw [ek] at k2
          exact k2.elim
      | exc _ _ _ => cases d2 <;> cases ej
      | bad => rw [ej] at k2; exact k2.elim
    · exact h.elim
/-- o[i] = e, o a cell of the store -/
theorem ss_setR {sp : Pos} (h : SE X Ex Φ a A) (ho : SE X Ex Φ c C) (hi : SE X Ex Φ b B)
    (ha : ∀ v, assign (.Subscript c b sp) X.env v = (do
      let ov ← holding [v] (eval c X.env)
      let iv ← holding [v, ov] (eval b X.env)
      standAt sp
      holding [v, ov, iv] (setItem ov iv v)
      release [v, ov, iv] []) := by intro _; rfl)
    (hs : swapsWithSole [.Subscript c b sp] a pos.line X.env = pure false := by rfl) (hw : swappedStores [.Subscript c b sp] a X.env = pure none := by rfl) (h1 : (assignEach [.Subscript c b sp] X.env).map (·.2) = [assign (.Subscript c b sp) X.env] := by rfl) :
    SS X Ex Φ en (.Assign [.Subscript c b sp] a pos) (.setR C B A) :=
  PS.mono (ps_asg h (pg_sub ho hi set_list ha) hs hw h1) fun D σ H ⟨δ, μ, m, hb, a, h⟩ => by
    unfold evalS at h
    refine ⟨m, hb, δ, μ, a.rel, a.sl, (EvS.bindE a h).imp fun v H1 ⟨d, μ1, m1, hb1, M, a1, k⟩ => ?_⟩
    refine ⟨m1, hb1, δ, μ1, a1.rel, a1.sl, (EvS.bindE a1 k).imp fun o H2 ⟨d2, μ2, m2, hb2, M2, a2, k2⟩ => ?_⟩
    refine ⟨m2, hb2, δ, μ2, a2.rel, a2.sl, (EvS.bindE a2 k2).imp fun w H3 ⟨d3, μ3, m3, hb3, M3, a3, k3⟩ => ?_⟩
    clear h k k2
    simp only at k3
    cases d2 with
    | ref r =>
      have rd2 := M2.rd.mono M3.st.pre M3.st.sub
      cases rd2 with
      | ref e =>
      simp only at k3
      cases ej : rI d3 with
      | ok j =>
        rw [ej] at k3
        have k3 : EvS X.K Ex en m3 hb3 (match μ3[r]? with
          | some xs => (match ixN xs.length j with
            | some m => .ok (.nx, δ, μ3.set r (xs.set m d))
            | none => .bad)
          | none => .bad) D := k3
        cases em : μ3[r]? with
        | some xs =>
          rw [em] at k3
          simp only at k3
          cases ek : ixN xs.length j with
          | some n =>
            rw [ek] at k3
            obtain ⟨q, ws, l1, l2, l3⟩ := a3.rel.at em
            rw [e] at l1
            cases l1
            refine ⟨_, ws, j, n, rfl, M3.rd.intOf ej, l2, by rw [l3.length]; exact ek, ?_⟩
            exact EvS.go k3 (a3.wrCell e (l3.set n ((M.rd.mono M2.st.pre M2.st.sub).mono M3.st.pre M3.st.sub)))
          | none => rw [ek] at k3; exact k3.elim
        | none => rw [em] at k3; exact k3.elim
      | exc _ _ _ => cases d3 <;> cases ej
      | bad => rw [ej] at k3; exact k3.elim
    | _ => exact k3.elim
/-- x, y = e, f: two locals -/
theorem EvS.bindA {K : PySem.W.Frag} {D : Ends} {r : Res (SC.D × Store)} {f : SC.D × Store → RS} {δ : SC.Env} {μ : Store} {σ : L2.St} {m : List Addr} {hb H : Hp} (a : At K en δ μ σ m hb H) (h : EvS K Ex en m hb (r.bind f) D) :
    EvA K Ex r m hb H fun vs H1 => ∃ d μ1 m1 hb1, MidA K m hb H r vs H1 m1 hb1 d μ1 ∧ At K en δ μ1 σ m1 hb1 H1 ∧ EvS K Ex en m1 hb1 (f (d, μ1)) D := by
  match r, h with
  | .ok (d, μ'), h => exact fun v m' hb' H' s r rd => ⟨d, μ', m', hb', ⟨rfl, s, r, rd⟩, a.step s r, EvS.wk (r := f (d, μ')) h s.wk⟩
  | .exc c p μ', h => exact fun m' hb' H' s r => h m' hb' H' (a.st.trans s) r
theorem ss_par {i j : Nat} {x y : Str} {px py pt : Pos} {kt k2 pt2} (hc : X.calm = true) (hN : X.N.Nodup) (h : SA X Ex Φ [a, b] A) (hi : X.N[i]? = some x := by rfl) (hj : X.N[j]? = some y := by rfl) (hij : i ≠ j := by decide)
    (hx : X.env.scope.names.lookup x = some .local := by rfl) (hy : X.env.scope.names.lookup y = some .local := by rfl)
    (hw : swappedStores [.Tuple [.Name x px, .Name y py] kt pt] (.Tuple [a, b] k2 pt2) X.env = pure (some [x, y]) := by rfl)
    (hs : swapsWithSole [.Tuple [.Name x px, .Name y py] kt pt] (.Tuple [a, b] k2 pt2) pos.line X.env = pure false := by rfl) :
    SS X Ex Φ en (.Assign [.Tuple [.Name x px, .Name y py] kt pt] (.Tuple [a, b] k2 pt2) pos) (.par [(i, 0), (j, 0)] A) :=
  PS.mono (ps_par hc hN hi hj hij hx hy h hw hs) fun D σ H ⟨δ, μ, m, hb, a, h⟩ => by
    unfold evalS at h
    refine ⟨m, hb, δ, μ, a.rel, a.sl, (EvS.bindA a h).imp fun vs H1 ⟨d, μ1, m1, hb1, M, a1, k⟩ => ?_⟩
    have rd := M.rd
    simp only at k
    revert k rd
    generalize packOf d = ds
    intro k rd
    match ds, vs, k, rd with
    | [d1, d2], _, k, .cons r1 (.cons r2 .nil) => exact ⟨_, _, rfl, EvS.go k ((a1.set r1).set r2)⟩
    | [], _, k, _ => exact k.elim
    | [_], _, k, _ => exact k.elim
    | _ :: _ :: _ :: _, _, k, _ => exact k.elim
/-- .. three -/
theorem ss_par3 {i j l : Nat} {x y z : Str} {px py pz pt : Pos} {kt k2 pt2} (hc : X.calm = true) (hN : X.N.Nodup) (h : SA X Ex Φ [a, b, c] A) (hi : X.N[i]? = some x := by rfl) (hj : X.N[j]? = some y := by rfl) (hl : X.N[l]? = some z := by rfl) (hij : i ≠ j := by decide) (hil : i ≠ l := by decide) (hjl : j ≠ l := by decide)
    (hx : X.env.scope.names.lookup x = some .local := by rfl) (hy : X.env.scope.names.lookup y = some .local := by rfl) (hz : X.env.scope.names.lookup z = some .local := by rfl)
    (hw : swappedStores [.Tuple [.Name x px, .Name y py, .Name z pz] kt pt] (.Tuple [a, b, c] k2 pt2) X.env = pure (some [x, y, z]) := by rfl)
    (hs : swapsWithSole [.Tuple [.Name x px, .Name y py, .Name z pz] kt pt] (.Tuple [a, b, c] k2 pt2) pos.line X.env = pure false := by rfl) :
    SS X Ex Φ en (.Assign [.Tuple [.Name x px, .Name y py, .Name z pz] kt pt] (.Tuple [a, b, c] k2 pt2) pos) (.par [(i, 0), (j, 0), (l, 0)] A) :=
  PS.mono (ps_par3 hc hN hi hj hl hij hil hjl hx hy hz h hw hs) fun D σ H ⟨δ, μ, m, hb, a, h⟩ => by
    unfold evalS at h
    refine ⟨m, hb, δ, μ, a.rel, a.sl, (EvS.bindA a h).imp fun vs H1 ⟨d, μ1, m1, hb1, M, a1, k⟩ => ?_⟩
    have rd := M.rd
    simp only at k
    revert k rd
    generalize packOf d = ds
    intro k rd
    match ds, vs, k, rd with
    | [d1, d2, d3], _, k, .cons r1 (.cons r2 (.cons r3 .nil)) => exact ⟨_, _, _, rfl, EvS.go k (((a1.set r1).set r2).set r3)⟩
    | [], _, k, _ => exact k.elim
    | [_], _, k, _ => exact k.elim
    | [_, _], _, k, _ => exact k.elim
    | _ :: _ :: _ :: _ :: _, _, k, _ => exact k.elim
/-- while -/
theorem ss_while (hp : PassesOwn (model X.prog X.w) X.A X.env X.xe) (hc : ST X Ex Φ c C) (hb : SSs X Ex Φ en sts S1) : SS X Ex Φ en (.While c sts [] pos) (.while C S1) :=
  PS.mono (ps_while hp hc hb) fun D σ H ⟨δ, μ, m, hb, a, h⟩ => by
    unfold evalS at h
    refine ⟨fun n σ H => ∃ δ μ m hb, At X.K en δ μ σ m hb H ∧ EvS X.K Ex en m hb (whileLoop (fun δ1 μ1 => evT (evalE Φ C δ1 μ1)) (fun δ1 μ1 => evalS Φ S1 δ1 μ1) n δ μ) D, ⟨_, δ, μ, m, hb, a, h⟩, ?_⟩
    clear a h
    rintro n σ H ⟨δ, μ, m, hb, a, h⟩
    cases n with
    | zero => exact h.elim
    | succ n =>
      unfold whileLoop at h
      refine ⟨m, hb, δ, μ, a.rel, a.sl, ?_⟩
      cases ew : evT (evalE Φ C δ μ) with
      | bad => rw [ew] at h; exact h.elim
      | exc c p μ' => rw [ew] at h; exact fun m' hb' H' s r => h m' hb' H' (a.st.trans s) r
      | ok q =>
        obtain ⟨t, μ1⟩ := q
        rw [ew] at h
        intro m1 hb1 H1 s1 r1
        have a1 := a.step s1 r1
        cases t with
        | false => exact iteF (EvS.go (EvS.wk h s1.wk) a1)
        | true =>
          refine iteT ⟨fun σ' H' => ∃ δ μ m hb, At X.K en δ μ σ' m hb H' ∧ EvS X.K Ex en m hb (whileLoop (fun δ1 μ1 => evT (evalE Φ C δ1 μ1)) (fun δ1 μ1 => evalS Φ S1 δ1 μ1) n δ μ) D, fun σ' H' w => ⟨n, Nat.lt_succ_self n, w⟩, δ, μ1, m1, hb1, a1, ?_⟩
          have h := EvS.wk h s1.wk
          simp only at h
          generalize evalS Φ S1 δ μ1 = r at h ⊢
          match r, h with
          | .ok (.nx, δ2, μ2), h => exact fun σ' H' m' hb' a' w => ⟨δ2, μ2, m', hb', a', EvS.wk (r := whileLoop _ _ n δ2 μ2) h w⟩
          | .ok (.ct, δ2, μ2), h => exact fun σ' H' m' hb' a' w => ⟨δ2, μ2, m', hb', a', EvS.wk (r := whileLoop _ _ n δ2 μ2) h w⟩
          | .ok (.bk, δ2, μ2), h => exact h
          | .ok (.rt d, δ2, μ2), h => exact h
          | .exc _ _ _, h => exact h
/-- for -/
theorem ss_for {tg iter : Expr} {is : List Nat} {kd : IK} (hp : PassesOwn (model X.prog X.w) X.A X.env X.xe) (hc : X.calm = true) (hi : SI X Ex Φ tg iter kd A) (hg : SG X tg is) (hb : SSs X Ex Φ en sts S1) (hs : ∀ x, foldedSetIterable iter X.env x = pure x := by intro _; rfl) :
    SS X Ex Φ en (.For tg iter sts [] pos) (.loop is kd A S1) :=
  PS.mono (ps_for hp hc hi hg hb hs) fun D σ H ⟨δ, μ, m, hb, a, h⟩ => by
    unfold evalS at h
    refine ⟨m, hb, δ, μ, a.rel, a.sl, ?_⟩
    cases ew : evalE Φ A δ μ with
    | bad => rw [ew] at h; exact h.elim
    | exc c p μ' => rw [ew] at h; exact fun m' hb' H' s r => h m' hb' H' (a.st.trans s) r
    | ok q =>
      obtain ⟨d, μ1⟩ := q
      rw [ew] at h
      have h : EvS X.K Ex en m hb (match pSrc kd μ1 (packOf d) with
        | some (g, xs) => forLoop (fun x δ1 μ1 => (match bindT is x δ1 with
            | some δ2 => evalS Φ S1 δ2 μ1
            | none => .bad)) g xs δ μ1
        | none => .bad) D := h
      cases es : pSrc kd μ1 (packOf d) with
      | none => rw [es] at h; exact h.elim
      | some q =>
      obtain ⟨g, xs⟩ := q
      rw [es] at h
      simp only at h
      refine ⟨g, xs, es, fun J m1 hb1 H1 s1 r1 j => ?_⟩
      have a1 := a.step s1 r1
      have h1 := EvS.wk h s1.wk
      clear h a
      generalize hF : (fun x δ1 μ1 => (match bindT is x δ1 with
            | some δ2 => evalS Φ S1 δ2 μ1
            | none => .bad) : SC.D → SC.Env → Store → RS) = F at h1
      let W : Nat → Nat → L2.St → Hp → Prop := fun i n σ H => n = xs.length - i ∧ i ≤ xs.length ∧ ∃ δ μ m hb, At X.K en δ μ σ m hb H ∧ Wk m1 hb1 m hb ∧ EvS X.K Ex en m hb (forLoop F g (xs.drop i) δ μ) D
      refine ⟨W, ⟨_, rfl, Nat.zero_le _, δ, μ1, m1, hb1, a1, .refl, h1⟩, ?_⟩
      clear a1 h1 r1 s1 es ew
      rintro i n σ H ⟨rfl, hi, δ, μ, m, hb, a, w, h⟩
      by_cases hl : i < xs.length
      · right
        rw [List.drop_eq_getElem_cons hl] at h
        unfold forLoop at h
        split at h
        · rename_i gk
          refine ⟨j.goes m hb H μ i w a.rel gk hl, fun σ' H' => ∃ δ μ m hb, At X.K en δ μ σ' m hb H' ∧ Wk m1 hb1 m hb ∧ EvS X.K Ex en m hb (forLoop F g (xs.drop (i + 1)) δ μ) D, fun σ' H' ⟨δ', μ', m', hb', a', w', h'⟩ => ⟨_, by omega, rfl, hl, δ', μ', m', hb', a', w', h'⟩, fun x H' y => ?_⟩
          obtain ⟨dd, hb2, e1, s2, r2, rd⟩ := j.yields m hb H μ i x H' w a.rel gk hl y
          rw [List.getElem?_eq_getElem hl] at e1
          cases e1
          have a2 := a.step s2 r2
          have h2 := EvS.wk h s2.wk
          have w2 := w.trans s2.wk
          rw [← hF] at h2
          simp only at h2
          cases eb : bindT is xs[i] δ with
          | none => rw [eb] at h2; exact h2.elim
          | some δ2 =>
            rw [eb] at h2
            simp only at h2
            refine ⟨m, hb2, δ, μ, _, δ2, a2.rel, a2.sl, rd, eb, fun σ' s' sa => ⟨δ2, μ, m, hb2, At.bound a2 eb s' sa, ?_⟩⟩
            rw [hF] at h2
            generalize evalS Φ S1 δ2 μ = r at h2 ⊢
            match r, h2 with
            | .ok (.nx, δ3, μ3), h => exact fun σ' H' m' hb' a' w' => ⟨δ3, μ3, m', hb', a', w2.trans w', EvS.wk (r := forLoop F g _ δ3 μ3) h w'⟩
            | .ok (.ct, δ3, μ3), h => exact fun σ' H' m' hb' a' w' => ⟨δ3, μ3, m', hb', a', w2.trans w', EvS.wk (r := forLoop F g _ δ3 μ3) h w'⟩
            | .ok (.bk, δ3, μ3), h => exact h
            | .ok (.rt d, δ3, μ3), h => exact h
            | .exc _ _ _, h => exact h
        · exact h.elim
      · left
        have hi2 : i = xs.length := by omega
        subst hi2
        rw [List.drop_length] at h
        unfold forLoop at h
        split at h
        · rename_i gk
          exact ⟨j.stops m hb H μ w a.rel gk, EvS.go h a⟩
        · exact h.elim
end
/-! ### defs -/
theorem slots_start {K : PySem.W.Frag} {m : List Addr} {hb H : Hp} {vs : List V} {ds : List SC.D} {N : List Str} {ns : Nat} (hn : ns = N.length) (h : RdAll K m hb vs ds) : Slots K m hb H (startE ns ds) (L2.start N vs) := by
  have hl := h.length
  have isv : ∀ {i : Nat} {s : Sl}, (startE ns ds)[i]? = some s → s = .no ∨ ∃ d, ds[i]? = some d ∧ s = .val d := fun {i s} e => by
    unfold startE at e
    by_cases hi : i < ds.length
    · rw [List.getElem?_append_left (by simpa using hi), List.getElem?_map] at e
      obtain ⟨d, h1, h2⟩ := Option.map_eq_some_iff.mp e
      exact .inr ⟨d, h1, h2.symm⟩
    · rw [List.getElem?_append_right (by simpa using hi)] at e
      rw [List.getElem?_replicate] at e
      split at e <;> cases e
      exact .inl rfl
  refine ⟨by unfold startE L2.start; simp [hl, hn], fun i d e => ?_, fun i xs e => ?_, fun i kd ks ws e => ?_, fun i j s t p hne e1 e2 o1 o2 q1 => ?_⟩
  · rcases isv e with z | ⟨d', h1, z⟩
    · cases z
    · cases z
      obtain ⟨v, h2, h3⟩ := h.get h1
      refine ⟨v, ?_, h3⟩
      unfold L2.start
      have hi : i < vs.length := (List.getElem?_eq_some_iff.mp h2).1
      rw [List.getElem?_append_left (by simpa using hi), List.getElem?_map, h2]
      rfl
  · rcases isv e with z | ⟨d', h1, z⟩ <;> cases z
  · rcases isv e with z | ⟨d', h1, z⟩ <;> cases z
  · rcases isv e1 with z | ⟨d', h1, z⟩ <;> subst z <;> cases o1
theorem fn_ok {P : Program} {w : World} {K : PySem.W.Frag} {mg : Str → Option Value} {base : Heap} {x : Str} {f : String} {st : Stmt} {N ps : List Str} {fd : FuncData} {fa : Addr} {k n : Nat} {T : Tbl} {d : FnDef}
    (F : FunD K x x (defArgs st) (defBody st) (defScope st) [] [] fa fd) (S : FnScope N ps (defScope st)) (hT : T f = some d) (hnp : d.np = n) (hps : ps.length = n) (hns : d.ns = N.length)
    (hb : ∀ (cdv : Value) (A : Around) (outer : List PySem.Env) (s : Shared) (H : Hp) (E : XK) (en : En), Room k (A.deeper (envOfC x (defScope st) s.heap.objs.size fa cdv)) →
      SSs (cxOf CX0 P w K mg base N x (defScope st) fa cdv A outer s H E).nox E0 (callN T k) en (defBody st) d.body) : FnOk P w K mg base CX0 (k + 1) fa fd ps (spF K (callN T (k + 1)) f n) := by
  refine F.ok S (fun vs H Q E h => by rw [hps]; exact h.1) (fun cdv A outer s H vs Q E hr h => ?_)
  obtain ⟨hl, m, hb0, μ, ds, r, rd, h⟩ := h
  refine ⟨_, PSs.nox (hb cdv A outer s H E ⟨m, hb0, H⟩ hr), startE d.ns ds, μ, m, hb0, ⟨r, slots_start hns rd, .refl, fun i t p e o => ?_⟩, ?_⟩
  · have s0 := slots_start (H := H) (N := N) hns rd
    intro q
    cases t with
    | own xs =>
      obtain ⟨q', us, k1, k2, k3, k4, k5⟩ := s0.own i xs e
      unfold startE at e
      by_cases hi : i < ds.length
      · rw [List.getElem?_append_left (by simpa using hi), List.getElem?_map] at e
        obtain ⟨d', z1, z2⟩ := Option.map_eq_some_iff.mp e
        cases z2
      · rw [List.getElem?_append_right (by simpa using hi), List.getElem?_replicate] at e
        split at e <;> cases e
    | ownd kd ks ws => exact absurd e (s0.ownd _ _ _ _)
    | no => cases o
    | val _ => cases o
  · have hds : ds.length = d.np := by rw [hnp, ← hl, rd.length]
    unfold callN at h
    rw [hT] at h
    simp only [hds, if_true] at h
    show EvS K E0 ⟨m, hb0, H⟩ m hb0 (evalS (callN T k) d.body (startE d.ns ds) μ) _
    generalize evalS (callN T k) d.body (startE d.ns ds) μ = w at h ⊢
    match w, h with
    | .ok (.nx, δ, μ1), h => exact fun σ H' m' hb' a w => h .non m' hb' H' a.st a.rel .non
    | .ok (.rt d, δ, μ1), h => exact fun v m' hb' H' s r rd => h v m' hb' H' s r rd
    | .exc c p μ1, h => exact fun m' hb' H' s r => h m' hb' H' s r
/-- at no depth at all -/
theorem fn_zero {P : Program} {w : World} {K : PySem.W.Frag} {mg : Str → Option Value} {base : Heap} {f : String} {fd : FuncData} {fa : Addr} {ps : List Str} {n : Nat} {T : Tbl} (hps : ps.length = n) : FnOk P w K mg base CX0 0 fa fd ps (spF K (callN T 0) f n) :=
  ⟨fun vs H Q E h => by rw [hps]; exact h.1, fun A outer s H args us vs Q E hr e0 hb r ⟨_, m, hb0, μ, ds, _, _, h⟩ => h.elim⟩
end SC

set_option Elab.async false
set_option linter.all false
set_option maxRecDepth 100000
set_option maxHeartbeats 4000000
/-! SC9: *, [::-1]. -/
namespace SC
open PySem PySem.Spec PyProof.Rows L2
theorem tuple_mulSame (l : Addr) (items : Array Value) (n : Nat) (dd : Option Addr) (sl : Array (Option Value)) (x : Int) (u : Tok) (c0 : (decide (x < -(2 ^ 63)) || decide (x ≥ 2 ^ 63)) = false) (c1 : (items.isEmpty || x == 1) = true) :
    Meets (Builtin.«tuple.__mul__» ⟨[.ref l, .int x u], []⟩) (fun _ R s => s.heap.get? l = some { cls := .type "tuple", dict := dd, data := .seq items n, slots := sl } ∧ R (.ok (.ret (Value.ref l))) s) :=
  .of_wp fun prog w A R s h => by
    obtain ⟨hp, g, d, tk, os⟩ := s
    obtain ⟨hl, h⟩ := h
    have f1 := AutoSeq1.idx_int
    wp_walk using wpAny_loadPart' hl
    repeat (first
      | (refine wpAny_ite_false (decide_eq_false (by rw [c0]; exact Bool.false_ne_true)) ?_; wp_walk using wpAny_loadPart' hl)
      | (refine wpAny_ite_true (decide_eq_true (by rw [c1])) ?_; wp_walk using wpAny_loadPart' hl))
    exact ⟨_, rfl, h⟩
theorem tuple_mulNone (l : Addr) (items : Array Value) (n : Nat) (dd : Option Addr) (sl : Array (Option Value)) (x : Int) (u : Tok) (c0 : (decide (x < -(2 ^ 63)) || decide (x ≥ 2 ^ 63)) = false) (c1 : (items.isEmpty || x == 1) = false) (c2 : (decide (x ≤ 0) || items.isEmpty) = true) :
    Meets (Builtin.«tuple.__mul__» ⟨[.ref l, .int x u], []⟩) (fun _ R s => s.heap.get? l = some { cls := .type "tuple", dict := dd, data := .seq items n, slots := sl } ∧
      R (.ok (.ret (Value.ref s.heap.objs.size))) { s with heap := s.heap.push { cls := Value.type "tuple", data := Data.seq #[] }, toks := s.toks }) :=
  .of_wp fun prog w A R s h => by
    obtain ⟨hp, g, d, tk, os⟩ := s
    obtain ⟨hl, h⟩ := h
    have f1 := AutoSeq1.idx_int
    wp_walk using wpAny_loadPart' hl
    repeat (first
      | (refine wpAny_ite_false (decide_eq_false (by rw [c0]; exact Bool.false_ne_true)) ?_; wp_walk using wpAny_loadPart' hl)
      | (refine wpAny_ite_false (decide_eq_false (by rw [c1]; exact Bool.false_ne_true)) ?_; wp_walk using wpAny_loadPart' hl)
      | (refine wpAny_ite_true (decide_eq_true (by rw [c2])) ?_; wp_walk using wpAny_loadPart' hl))
    exact ⟨_, rfl, h⟩
section
variable {X : Cx}
def rRepA (K : PySem.W.Frag) : R2 := fun x y H Q => ∃ l k xs, x = .ref l ∧ y = .int k ∧ SqT K H l xs ∧ -(2 ^ 31) < k ∧ k < 2 ^ 31 ∧ xs.length * k.toNat ≤ sizeLine ∧ (xs = [] ∨ k = 1 → Q (.ref l) H) ∧ (xs ≠ [] → k ≠ 1 → ∀ p, H p = none → Q (.ref p) (upd H p (.tup (List.replicate k.toNat xs).flatten)))
theorem op_repA : OpR X (binaryOp .Mult) (rRepA X.K) := by
  intro pins s σ H x y v u Q I rx ry h
  obtain ⟨l, k, xs, rfl, rfl, hT, h1, h2, hz, q1, q2⟩ := h
  cases rx
  obtain ⟨t, rfl⟩ := ry
  obtain ⟨its, r, ⟨⟨cls, dd, data, sl⟩, ho, hc, n, hd⟩, hs⟩ := I.tuple hT
  simp only at hc hd
  subst hc hd
  have hle : its.length = xs.length := r.length.symm
  have hi : its.toArray.isEmpty = decide (xs = []) := by
    cases its with
    | nil => cases xs with
      | nil => rfl
      | cons _ _ => cases hle
    | cons a b => cases xs with
      | nil => cases hle
      | cons _ _ => rfl
  have hsz0 : its.toArray.size = xs.length := by rw [List.size_toArray, hle]
  have c0 : (decide (k < -(2 ^ 63)) || decide (k ≥ 2 ^ 63)) = false := by
    rw [decide_eq_false (by omega), decide_eq_false (by omega)] <;> rfl
  have flen : (List.replicate k.toNat its).flatten.length ≤ sizeLine := by
    rw [PyProof.Rows.lm_len_rep_flat, hle, Nat.mul_comm]
    exact hz
  refine wpAny_binaryOp_repeat_ref (T := "tuple") (U := "int") (by decide) ⟨_, ho, rfl⟩ (fun s' => typeIs_int s' k t) noFill_tuple_mul F.fills_int_mul F.slot_int_rmul repeat_tuple F.slot_int_index.lookup
    (call_meets F.slot_int_rmul (typeIs_int s k t) F.entry_int_rmul (F.args_int_rmul_2 _ _) (int_rmul_tuple k t l its.toArray n dd sl) ⟨ho, rfl, ⟨_, ho, rfl⟩, ?_⟩)
  by_cases hsame : xs = [] ∨ k = 1
  · have c1 : (its.toArray.isEmpty || k == 1) = true := by
      rw [hi]
      rcases hsame with z | z
      · simp [z]
      · simp [z]
    refine call_meets F.slot_tuple_mul ⟨_, ho, rfl⟩ F.entry_tuple_mul (F.args_tuple_mul_2 _ _) (tuple_mulSame l its.toArray n dd sl k t c0 c1) ⟨ho, ?_⟩
    exact ⟨.ref l, H, I, rfl, q1 hsame⟩
  · have hne : xs ≠ [] := fun z => hsame (.inl z)
    have hk1 : k ≠ 1 := fun z => hsame (.inr z)
    have c1 : (its.toArray.isEmpty || k == 1) = false := by
      rw [hi]
      simp [hne, hk1]
    by_cases hk : k ≤ 0
    · have c2 : (decide (k ≤ 0) || its.toArray.isEmpty) = true := by simp [hk]
      refine call_meets F.slot_tuple_mul ⟨_, ho, rfl⟩ F.entry_tuple_mul (F.args_tuple_mul_2 _ _) (tuple_mulNone l its.toArray n dd sl k t c0 c1 c2) ⟨ho, ?_⟩
      have e0 : (List.replicate k.toNat xs).flatten = [] := by
        have : k.toNat = 0 := by omega
        rw [this]; rfl
      have q2 := q2 hne hk1 _ (I.hok.fresh (Nat.le_refl _))
      rw [e0] at q2
      refine ⟨.ref s.heap.objs.size, _, I.laid (t' := s.toks) (o := .tup []) (fun b ob q => Heap.get?_push_of_some _ q) (Nat.le_refl _) ?_, rfl, q2⟩
      exact ⟨Nat.zero_le _, [], .nil, IsTup.new _ _⟩
    · have c2 : (decide (k ≤ 0) || its.toArray.isEmpty) = false := by
        rw [hi]
        simp [hne]
        omega
      have hm : ((its.toArray.size : Nat) : Int) * k ≤ (sizeLine : Nat) := by
        rw [hsz0]
        have : ((xs.length * k.toNat : Nat) : Int) ≤ (sizeLine : Nat) := by exact_mod_cast hz
        rw [Int.natCast_mul, Int.toNat_of_nonneg (by omega)] at this
        exact this
      have hsl : ((sizeLine : Nat) : Int) ≤ (2 ^ 63 - 1) / 8 := by rw [sizeLine_eq]; decide
      have c4 : Builtin.Tuple.tupleTooMany (((its.toArray.size : Nat) : Int) * k) = false := by
        unfold Builtin.Tuple.tupleTooMany
        exact decide_eq_false (by omega)
      refine call_meets F.slot_tuple_mul ⟨_, ho, rfl⟩ F.entry_tuple_mul (F.args_tuple_mul_2 _ _) (tuple_mulW l its.toArray n dd sl k t c0 c1 c2 (by omega) c4 (by rw [size_rep, List.size_toArray]; exact flen)) ⟨ho, ?_⟩
      rw [size_rep]
      refine ⟨.ref s.heap.objs.size, _, I.laid (t' := s.toks) (o := .tup (List.replicate k.toNat xs).flatten) (fun b ob q => Heap.get?_push_of_some _ q) (Nat.le_refl _) ?_, rfl, q2 hne hk1 _ (I.hok.fresh (Nat.le_refl _))⟩
      exact ⟨by rw [PyProof.Rows.lm_len_rep_flat, Nat.mul_comm]; exact hz, _, r.rep k.toNat, IsTup.new _ _⟩
/-- a list that may be one read only -/
theorem rep_new (its : List Value) (k : Nat) : List.foldl (fun x1 x2 => x1 ++ x2) #[] (List.replicate (if its.toArray.isEmpty = true then 0 else k) its.toArray) = (List.replicate k its).flatten.toArray := by
  by_cases h0 : its = []
  · subst h0; simp
  · rw [if_neg (by simpa using h0), size_rep]
theorem op_repR : OpR X (binaryOp .Mult) (fun x y H Q => ∃ l k xs, x = .ref l ∧ y = .int k ∧ L2.Rd H l (.lst xs) ∧ -(2 ^ 63) ≤ k ∧ k < 2 ^ 63 ∧ xs.length * k.toNat ≤ sizeLine ∧
  ∀ p, H p = none → Q (.ref p) (upd H p (.lst (List.replicate k.toNat xs).flatten))) := by
  intro pins s σ H x y v u Q I rx ry ⟨l, k, xs, ex, ey, hH, h1, h2, hz, q⟩
  subst ex ey
  cases rx
  obtain ⟨t, rfl⟩ := ry
  obtain ⟨z, its, n, r, hl, e⟩ := Inv.lstR I hH
  have len : its.toArray.size * k.toNat ≤ sizeLine := by rw [List.size_toArray, ← hl]; exact hz
  have big : (sizeLine : Nat) ≤ (2 ^ 63 - 1) / 8 := by decide
  have mul := AutoListH.list___mul___list_int_3 l its.toArray n k t (by rw [fitsIndex_both h1 h2]; exact Bool.false_ne_true) (by omega) (by rw [notLongL len]; exact Bool.false_ne_true)
  have at_l : s.TypeIs (.ref l) "list" := ⟨_, e, rfl⟩
  refine wpAny_binaryOp_repeat_ref (T := "list") (U := "int") (by decide) at_l (fun s' => typeIs_int s' k t) noFill_list_mul F.fills_int_mul F.slot_int_rmul repeat_list F.slot_int_index.lookup
    (call_meets F.slot_int_rmul (typeIs_int s k t) F.entry_int_rmul (F.args_int_rmul_2 _ _) (int___rmul___int_list k t l its.toArray n) ⟨e, rfl, at_l, ?_⟩)
  refine call_meets F.slot_list_mul at_l F.entry_list_mul (F.args_list_mul_2 _ _) mul ⟨e, ?_⟩
  rw [rep_new]
  have lz : (List.replicate k.toNat xs).flatten.length ≤ sizeLine := by rw [PyProof.Rows.lm_len_rep_flat, Nat.mul_comm]; exact hz
  exact ⟨.ref _, _, I.lnew (t' := s.toks) (r.rep k.toNat) lz, rfl, q _ I.fresh⟩
theorem op_mulS : OpR X (binaryOp .Mult) (rS X.K fun _ a b => pMul a b) := by
  intro pins s σ H x y v u Q I rx ry ⟨m, hb, μ, a, b, d, r, ra, rb, e, q⟩
  have rok : ∀ {n : Nat} {k : Int}, repOk n k = true → -(2 ^ 31) < k ∧ k < 2 ^ 31 ∧ n * k.toNat ≤ sizeLine := fun {n k} h => by
    unfold repOk at h
    simp only [Bool.and_eq_true, decide_eq_true_eq] at h
    exact ⟨h.1, h.2.1, h.2.2⟩
  cases b with
  | int k =>
    cases rb
    cases a with
    | int i =>
      cases ra
      simp only [pMul] at e
      split at e
      · rename_i hk
        cases e
        unfold mulOk at hk
        simp only [Bool.or_eq_true, Bool.and_eq_true, decide_eq_true_eq] at hk
        exact op_mul pins s σ H _ _ v u Q I rx ry ⟨i, k, rfl, rfl, hk, q.here r (.int _)⟩
      · cases e
    | lst xs =>
      simp only [pMul] at e
      split at e
      · rename_i hk
        cases e
        obtain ⟨h1, h2, h3⟩ := rok hk
        cases ra with | lst ha ta =>
        exact op_repR pins s σ H _ _ v u Q I rx ry ⟨_, k, _, rfl, rfl, rd_up r ha, by omega, by omega, by rw [ta.length]; exact h3, q.lst r (ta.rep _)⟩
      · cases e
    | tup xs =>
      simp only [pMul] at e
      split at e
      · rename_i hk
        cases e
        obtain ⟨h1, h2, h3⟩ := rok hk
        cases ra with | tup ha ta =>
        refine op_repA pins s σ H _ _ v u Q I rx ry ⟨_, k, _, rfl, rfl, sqT_up r ha, h1, h2, by rw [ta.length]; exact h3, fun z => ?_, fun _ _ => q.tup r (ta.rep _)⟩
        rcases z with z | z
        · subst z
          cases ta
          have e0 : rep ([] : List SC.D) k = [] := by unfold rep; simp
          rw [e0] at q
          exact q.here r (.tup ha .nil)
        · subst z
          have e0 : rep xs 1 = xs := by unfold rep; simp
          rw [e0] at q
          exact q.here r (.tup ha ta)
      · cases e
    | _ => cases e
  | _ => cases a <;> cases e
end
section
variable {X : Cx} {Ex : XK} {Φ : Fn} {a b c : Expr} {A B C : SC.E} {pos : Pos}
theorem se_mul (ha : SE X Ex Φ a A) (hb : SE X Ex Φ b B) : SE X Ex Φ (.BinOp a .Mult b pos) (.bin .mul A B) := se_op op_mulS (fun _ _ _ => rfl) ha hb
end
end SC

set_option Elab.async false
set_option linter.all false
set_option maxRecDepth 100000
namespace SC
open PySem PySem.Spec PyProof.Rows L2
theorem hu_of2 {A : Around} {k : Nat} (h : Room k A) : A.units + 65 < cLine := by
  have := h.un
  omega
end SC

set_option Elab.async false
set_option linter.all false
set_option maxRecDepth 100000
/-! SC11: the module's constants, the end. -/
namespace SC
open PySem PySem.Spec PyProof.Rows L2
mutual
def readK (K : PySem.W.Frag) : Nat → Value → D → Bool
  | 0, _, _ => false
  | n + 1, u, d => match u, d with
    | .none, .non => true
    | .bool b, .bl c => b == c
    | .int i _, .int j => decide (i = j)
    | .str x _, .str y => decide (x = y)
    | .ref a, .tup xs => (match K.lookup a with
      | some ⟨.type c, _, .seq its _, _⟩ => decide (c = "tuple") && (decide (its.size ≤ 1000) && readAllK K n its.toList xs)
      | _ => false)
    | _, _ => false
def readAllK (K : PySem.W.Frag) : Nat → List Value → List D → Bool
  | 0, _, _ => false
  | _ + 1, [], [] => true
  | n + 1, u :: us, d :: ds => readK K n u d && readAllK K n us ds
  | _, _, _ => false
end
mutual
theorem readK_ok {K : PySem.W.Frag} : ∀ {n : Nat} {u : Value} {d : D}, readK K n u d = true → ∃ v, RelV v u ∧ ∀ m hb, Rdv K m hb v d
  | 0, _, _, h => by simp [readK] at h
  | n + 1, u, d, h => by
    unfold readK at h
    split at h
    · exact ⟨.non, rfl, fun _ _ => .non⟩
    · obtain rfl := eq_of_beq h
      exact ⟨.bl _, rfl, fun _ _ => .bl _⟩
    · obtain rfl := of_decide_eq_true h
      exact ⟨.int _, ⟨_, rfl⟩, fun _ _ => .int _⟩
    · obtain rfl := of_decide_eq_true h
      exact ⟨.str _, ⟨_, rfl⟩, fun _ _ => .str _⟩
    · rename_i a xs
      split at h
      · rename_i c od its n2 sl e
        simp only [Bool.and_eq_true, decide_eq_true_eq] at h
        obtain ⟨rfl, hz, h⟩ := h
        obtain ⟨vs, r, rd⟩ := readAllK_ok h
        exact ⟨.ref a, rfl, fun m hb => .tup (.inr ⟨_, its, n2, e, rfl, rfl, Nat.le_trans hz (by decide), r⟩) (rd m hb)⟩
      · cases h
    · cases h
theorem readAllK_ok {K : PySem.W.Frag} : ∀ {n : Nat} {us : List Value} {ds : List D}, readAllK K n us ds = true → ∃ vs, Vals vs us ∧ ∀ m hb, RdAll K m hb vs ds
  | 0, _, _, h => by simp [readAllK] at h
  | n + 1, [], [], h => ⟨[], .nil, fun _ _ => .nil⟩
  | n + 1, u :: us, d :: ds, h => by
    simp only [readAllK, Bool.and_eq_true] at h
    obtain ⟨v, r, rd⟩ := readK_ok h.1
    obtain ⟨vs, rs, rds⟩ := readAllK_ok h.2
    exact ⟨v :: vs, .cons r rs, fun m hb => .cons (rd m hb) (rds m hb)⟩
  | n + 1, [], _ :: _, h => by simp [readAllK] at h
  | n + 1, _ :: _, [], h => by simp [readAllK] at h
end
def cstB (K : PySem.W.Frag) (x : Str) (n : String) : Bool := match PySem.W.nsIn K mainGlobals x, globD n with
  | some (some u), some d => readK K 100 u d
  | _, _ => false
theorem cst_ok {K : PySem.W.Frag} {h : Heap} {mg : Str → Option Value} (X : K.In h) (G : h.Ns mainGlobals mg) {x : Str} {n : String} (c : cstB K x n = true) : Cst K mg x n := by
  unfold cstB at c
  split at c
  · rename_i u d e1 e2
    obtain ⟨v, r, rd⟩ := readK_ok c
    exact ⟨v, u, d, PySem.W.mg_of X G e1, r, e2, rd⟩
  · cases c
theorem fnc {P : Program} {w : World} {K : PySem.W.Frag} {mg : Str → Option Value} {base : Heap} {x : Str} {f : String} {st : Stmt} {ps : List Str} {fd : FuncData} {fa : Addr} {k n : Nat} {Φ : Fn} (D : FunD K x x (defArgs st) (defBody st) (defScope st) [] [] fa fd) (hm : mg x = some (.ref fa)) (ok : FnOk P w K mg base CX0 k fa fd ps (spF K Φ f n)) (hl : ps.length = n)
    (hb : ∀ (kV doc pm : Value) (an : Option Addr) (cdv ct : Value) (us : List Value), us.length = ps.length → bindArgs (PySem.W.fnOf x x (defArgs st) (defBody st) (defScope st) .none kV doc pm an cdv ct) ⟨us, []⟩ = pure (ps.zip us)) : FnC P w K mg base CX0 k Φ x f n :=
  ⟨fa, fd, ps, ok, hl, hm, D.kp, D.bindsN hb⟩
/-- the script -/
theorem script_sp {K : PySem.W.Frag} {Φ : Fn} {H : Hp} {a : Addr} {ns : List Int} (hS : SqL K H a (ns.map V.int)) {μ' : Store} (h : Φ "law" [.scr (ns.map D.int)] [] = .ok (.bl true, μ')) : spF K Φ "law" 1 [.ref a] H (fun v _ => v = .bl true) fun _ _ _ => False := by
  refine ⟨rfl, [], H, [], [.scr (ns.map D.int)], ⟨fun _ _ h => h, rfl, .nil, fun k a e => by simp at e⟩, .cons (.scr hS ?_) .nil, ?_⟩
  · induction ns with
    | nil => exact .nil
    | cons n ns ih =>
      have key : ∀ ns : List Int, RdAll K [] H (ns.map V.int) (ns.map D.int) := fun ns => by
        induction ns with
        | nil => exact .nil
        | cons n ns ih => exact .cons (.int n) ih
      exact key (n :: ns)
  · rw [h]
    intro v m' hb' H' s r rd
    cases rd
    rfl
end SC

set_option Elab.async false
set_option linter.all false
set_option maxRecDepth 100000
/-! SCD: the defs that the laws share, as data. -/
namespace SC
open PySem L2
def d_is_one_of : FnDef := ⟨2, 2,
    (.ret (.and (.isi (.var 0) ["str"]) (.cmp .isin (.var 0) (.var 1))))⟩
def d_is_test : FnDef := ⟨1, 1,
    (.seq (.ife (.not (.isi (.var 0) ["str"])) (.ret (.k (.bl false))) .skip)
    (.ret (.or (.cmp .isin (.var 0) (.glob "TESTS")) (.and (.cmp .eq (.slc (.var 0) .nil (.k (.int 3))) (.k (.str (Str.ofString "no ")))) (.cmp .isin (.slc (.var 0) (.k (.int 3)) .nil) (.glob "TESTS"))))))⟩
def d_is_clause : FnDef := ⟨1, 2,
    (.seq (.ife (.or (.not (.isi (.var 0) ["tuple"])) (.or (.cmp .ne (.bi .len (.cons (.var 0) .nil)) (.k (.int 2))) (.not (.isi (.idx (.var 0) (.k (.int 0))) ["tuple"])))) (.ret (.k (.bl false))) .skip)
    (.ret (.and (.cmp .le (.bi .len (.cons (.idx (.var 0) (.k (.int 0))) .nil)) (.k (.int 3))) (.and (.bi .all (.cons (.comp [1] [1] .plain (.cons (.idx (.var 0) (.k (.int 0))) .nil) .nil (.call "is_test" (.cons (.var 1) .nil))) .nil)) (.call "is_one_of" (.cons (.idx (.var 0) (.k (.int 1))) (.cons (.glob "DEEDS") .nil)))))))⟩
def d_is_rule : FnDef := ⟨1, 2,
    (.ret (.and (.isi (.var 0) ["tuple"]) (.and (.cmp .le (.bi .len (.cons (.var 0) .nil)) (.glob "MOST_CLAUSES")) (.bi .all (.cons (.comp [1] [1] .plain (.cons (.var 0) .nil) .nil (.call "is_clause" (.cons (.var 1) .nil))) .nil)))))⟩
def d_is_within : FnDef := ⟨3, 3,
    (.ret (.and (.isi (.var 0) ["int"]) (.and (.not (.isi (.var 0) ["bool"])) (.chain .le .le (.var 1) (.var 0) (.var 2)))))⟩
def d_look_at_most : FnDef := ⟨1, 1,
    (.ife (.not (.call "is_within" (.cons (.var 0) (.cons (.k (.int 1)) (.cons (.k (.int 3)) .nil))))) (.raise "InvalidMost") .skip)⟩
def d_is_row : FnDef := ⟨1, 2,
    (.ret (.and (.isi (.var 0) ["tuple"]) (.and (.cmp .eq (.bi .len (.cons (.var 0) .nil)) (.k (.int 3))) (.bi .all (.cons (.comp [1] [1] .plain (.cons (.var 0) .nil) .nil (.isi (.var 1) ["bool"])) .nil)))))⟩
def d_fits : FnDef := ⟨2, 3,
    (.seq (.ife (.or (.not (.isi (.var 1) ["tuple"])) (.or (.cmp .ne (.bi .len (.cons (.var 1) .nil)) (.k (.int 2))) (.not (.isi (.idx (.var 1) (.k (.int 0))) ["tuple"])))) (.ret (.k (.bl false))) .skip)
    (.seq (.ife (.or (.cmp .gt (.bi .len (.cons (.idx (.var 1) (.k (.int 0))) .nil)) (.var 0)) (.not (.bi .all (.cons (.comp [2] [2] .plain (.cons (.idx (.var 1) (.k (.int 0))) .nil) .nil (.call "is_row" (.cons (.var 2) .nil))) .nil)))) (.ret (.k (.bl false))) .skip)
    (.ret (.call "is_within" (.cons (.idx (.var 1) (.k (.int 1))) (.cons (.neg (.k (.int 1))) (.cons (.bin .sub (.bi .len (.cons (.idx (.var 1) (.k (.int 0))) .nil)) (.k (.int 1))) .nil)))))))⟩
def d_is_stand : FnDef := ⟨2, 2,
    (.seq (.expr (.call "look_at_most" (.cons (.var 0) .nil)))
    (.ret (.call "fits" (.cons (.var 0) (.cons (.var 1) .nil)))))⟩
def d__law_well : FnDef := ⟨2, 2,
    (.seq (.ife (.cmp .ge (.var 0) (.bin .pow (.k (.int 10)) (.k (.int 18)))) (.ret (.alloc (.lst (.cons (.bin .sub (.var 0) (.bin .pow (.k (.int 10)) (.k (.int 18)))) (.cons (.bin .mod (.var 0) (.k (.int 2305843009213693951))) (.cons (.var 1) .nil)))))) .skip)
    (.ret (.alloc (.lst (.cons (.k (.int 0)) (.cons (.bin .mod (.var 0) (.k (.int 2305843009213693951))) (.cons (.var 1) .nil)))))))⟩
def d__law_take : FnDef := ⟨2, 5,
    (.seq (.ife (.cmp .gt (.idx (.var 0) (.k (.int 0))) (.k (.int 0))) (.seq (.set [2] (.bin .mod (.idx (.var 0) (.k (.int 0))) (.var 1)))
    (.seq (.setR (.var 0) (.k (.int 0)) (.bin .fdiv (.idx (.var 0) (.k (.int 0))) (.var 1)))
    (.ret (.var 2)))) .skip)
    (.seq (.setR (.var 0) (.k (.int 2)) (.bin .add (.idx (.var 0) (.k (.int 2))) (.k (.int 1))))
    (.seq (.set [3] (.k (.int 2305843009213693951)))
    (.seq (.set [4] (.bin .mod (.bin .add (.idx (.var 0) (.k (.int 1))) (.bin .mul (.k (.int 1000003)) (.idx (.var 0) (.k (.int 2))))) (.var 3)))
    (.seq (.set [4] (.bin .mod (.bin .add (.bin .add (.bin .mul (.var 4) (.var 4)) (.bin .mul (.k (.int 7919)) (.bin .pow (.idx (.var 0) (.k (.int 2))) (.k (.int 2))))) (.k (.int 5))) (.var 3)))
    (.ret (.bin .mod (.bin .fdiv (.bin .mod (.bin .pow (.var 4) (.k (.int 3))) (.var 3)) (.k (.int 13))) (.var 1))))))))⟩
def d__law_bags : FnDef := ⟨2, 4,
    (.ret (.comp [2, 3] [2, 3] .enum (.cons (.bin .add (.slc (.var 0) .nil (.var 1)) (.lst (.cons (.k (.int 0)) .nil))) .nil) .nil (.call "_law_well" (.cons (.var 3) (.cons (.bin .mul (.k (.int 977)) (.var 2)) .nil)))))⟩
def d__law_same : FnDef := ⟨2, 4,
    (.seq (.ife (.or (.and (.isi (.var 0) ["list"]) (.isi (.var 1) ["list"])) (.and (.isi (.var 0) ["tuple"]) (.isi (.var 1) ["tuple"]))) (.ret (.and (.cmp .eq (.bi .len (.cons (.var 0) .nil)) (.bi .len (.cons (.var 1) .nil))) (.bi .all (.cons (.comp [2, 3] [2, 3] .zip (.cons (.var 0) (.cons (.var 1) .nil)) .nil (.call "_law_same" (.cons (.var 2) (.cons (.var 3) .nil)))) .nil)))) .skip)
    (.seq (.ife (.or (.isi (.var 0) ["bool", "list", "tuple"]) (.isi (.var 1) ["bool", "list", "tuple"])) (.ret (.and (.isi (.var 0) ["bool"]) (.and (.isi (.var 1) ["bool"]) (.cmp .eq (.var 0) (.var 1))))) .skip)
    (.seq (.ife (.or (.isi (.var 0) ["int"]) (.isi (.var 1) ["int"])) (.ret (.and (.isi (.var 0) ["int"]) (.and (.isi (.var 1) ["int"]) (.cmp .eq (.var 0) (.var 1))))) .skip)
    (.seq (.ife (.or (.isi (.var 0) ["str"]) (.isi (.var 1) ["str"])) (.ret (.and (.isi (.var 0) ["str"]) (.and (.isi (.var 1) ["str"]) (.cmp .eq (.var 0) (.var 1))))) .skip)
    (.ret (.and (.cmp .isN (.var 0) (.k .non)) (.cmp .isN (.var 1) (.k .non))))))))⟩
def d__law_tests : FnDef := ⟨0, 0,
    (.ret (.lst (.cons (.k (.str (Str.ofString "come"))) (.cons (.k (.str (Str.ofString "go"))) (.cons (.k (.str (Str.ofString "hide"))) (.cons (.k (.str (Str.ofString "show"))) (.cons (.k (.str (Str.ofString "act"))) (.cons (.k (.str (Str.ofString "shown"))) (.cons (.k (.str (Str.ofString "chosen"))) (.cons (.k (.str (Str.ofString "main"))) (.cons (.k (.str (Str.ofString "only"))) (.cons (.k (.str (Str.ofString "empty"))) .nil))))))))))))⟩
def d__law_deeds : FnDef := ⟨0, 0,
    (.ret (.lst (.cons (.k (.str (Str.ofString "before"))) (.cons (.k (.str (Str.ofString "choose"))) (.cons (.k (.str (Str.ofString "keep"))) (.cons (.k (.str (Str.ofString "next"))) (.cons (.k (.str (Str.ofString "reach"))) (.cons (.k (.str (Str.ofString "spare"))) (.cons (.k (.str (Str.ofString "unchoose"))) .nil)))))))))⟩
def d__law_test : FnDef := ⟨1, 1,
    (.ret (.bin .add (.idx (.lst (.cons (.k (.str (Str.ofString ""))) (.cons (.k (.str (Str.ofString ""))) (.cons (.k (.str (Str.ofString "no "))) .nil)))) (.call "_law_take" (.cons (.var 0) (.cons (.k (.int 3)) .nil)))) (.idx (.call "_law_tests" .nil) (.call "_law_take" (.cons (.var 0) (.cons (.k (.int 10)) .nil))))))⟩
def d__law_clause : FnDef := ⟨1, 3,
    (.seq (.set [1] (.bi .tuple (.cons (.comp [2] [2] .range (.cons (.idx (.lst (.cons (.k (.int 0)) (.cons (.k (.int 1)) (.cons (.k (.int 1)) (.cons (.k (.int 2)) (.cons (.k (.int 2)) (.cons (.k (.int 3)) .nil))))))) (.call "_law_take" (.cons (.var 0) (.cons (.k (.int 6)) .nil)))) .nil) .nil (.call "_law_test" (.cons (.var 0) .nil))) .nil)))
    (.ret (.tup (.cons (.var 1) (.cons (.idx (.call "_law_deeds" .nil) (.call "_law_take" (.cons (.var 0) (.cons (.k (.int 7)) .nil)))) .nil)))))⟩
def d__law_known : FnDef := ⟨1, 2,
    (.seq (.own 1 1 (.lst (.cons (.tup (.cons (.tup (.cons (.tup (.cons (.k (.str (Str.ofString "hide"))) .nil)) (.cons (.k (.str (Str.ofString "unchoose"))) .nil))) (.cons (.tup (.cons (.tup (.cons (.k (.str (Str.ofString "go"))) (.cons (.k (.str (Str.ofString "main"))) .nil))) (.cons (.k (.str (Str.ofString "next"))) .nil))) .nil))) (.cons (.tup (.cons (.tup (.cons (.tup (.cons (.k (.str (Str.ofString "act"))) (.cons (.k (.str (Str.ofString "no shown"))) .nil))) (.cons (.k (.str (Str.ofString "spare"))) .nil))) .nil)) (.cons (.tup .nil) .nil)))))
    (.seq (.app 1 (.tup (.cons (.tup (.cons (.tup (.cons (.k (.str (Str.ofString "hide"))) (.cons (.k (.str (Str.ofString "main"))) .nil))) (.cons (.k (.str (Str.ofString "before"))) .nil))) (.cons (.tup (.cons (.tup (.cons (.k (.str (Str.ofString "hide"))) .nil)) (.cons (.k (.str (Str.ofString "unchoose"))) .nil))) (.cons (.tup (.cons (.tup (.cons (.k (.str (Str.ofString "go"))) (.cons (.k (.str (Str.ofString "only"))) .nil))) (.cons (.k (.str (Str.ofString "next"))) .nil))) .nil)))))
    (.seq (.app 1 (.tup (.cons (.tup (.cons (.tup (.cons (.k (.str (Str.ofString "come"))) (.cons (.k (.str (Str.ofString "empty"))) .nil))) (.cons (.k (.str (Str.ofString "choose"))) .nil))) (.cons (.tup (.cons (.tup (.cons (.k (.str (Str.ofString "act"))) (.cons (.k (.str (Str.ofString "no main"))) .nil))) (.cons (.k (.str (Str.ofString "spare"))) .nil))) (.cons (.tup (.cons (.tup (.cons (.k (.str (Str.ofString "go"))) (.cons (.k (.str (Str.ofString "main"))) .nil))) (.cons (.k (.str (Str.ofString "before"))) .nil))) .nil)))))
    (.ret (.oidx 1 (.call "_law_take" (.cons (.var 0) (.cons (.k (.int 5)) .nil))))))))⟩
def d__law_rule : FnDef := ⟨2, 6,
    (.seq (.set [2] (.call "_law_take" (.cons (.var 0) (.cons (.k (.int 4)) .nil))))
    (.seq (.ife (.cmp .eq (.var 2) (.k (.int 0))) (.ret (.bi .tuple (.cons (.comp [5] [5] .range (.cons (.call "_law_take" (.cons (.var 0) (.cons (.bin .add (.var 1) (.k (.int 1))) .nil))) .nil) .nil (.call "_law_clause" (.cons (.var 0) .nil))) .nil))) .skip)
    (.seq (.set [3] (.call "_law_known" (.cons (.var 0) .nil)))
    (.seq (.set [4] (.call "_law_take" (.cons (.var 0) (.cons (.bin .add (.bi .len (.cons (.var 3) .nil)) (.k (.int 1))) .nil))))
    (.seq (.ife (.cmp .eq (.var 2) (.k (.int 1))) (.set [3] (.bin .add (.bin .add (.slc (.var 3) .nil (.var 4)) (.tup (.cons (.call "_law_clause" (.cons (.var 0) .nil)) .nil))) (.slc (.var 3) (.var 4) .nil))) (.ife (.cmp .eq (.var 2) (.k (.int 2))) (.set [3] (.bin .add (.bin .add (.slc (.var 3) .nil (.var 4)) (.bin .mul (.tup (.cons (.call "_law_clause" (.cons (.var 0) .nil)) .nil)) (.call "_law_take" (.cons (.var 0) (.cons (.k (.int 2)) .nil))))) (.slc (.var 3) (.bin .add (.var 4) (.k (.int 1))) .nil))) .skip))
    (.ret (.slc (.var 3) .nil (.var 1))))))))⟩
def d__law_is_clause : FnDef := ⟨1, 4,
    (.seq (.set [1] (.bin .add (.call "_law_tests" .nil) (.comp [2] [2] .plain (.cons (.call "_law_tests" .nil) .nil) .nil (.bin .add (.k (.str (Str.ofString "no "))) (.var 2)))))
    (.seq (.ife (.or (.not (.isi (.var 0) ["tuple"])) (.or (.cmp .ne (.bi .len (.cons (.var 0) .nil)) (.k (.int 2))) (.or (.not (.isi (.idx (.var 0) (.k (.int 0))) ["tuple"])) (.cmp .gt (.bi .len (.cons (.idx (.var 0) (.k (.int 0))) .nil)) (.k (.int 3)))))) (.ret (.k (.bl false))) .skip)
    (.seq (.ife (.cmp .ne (.comp [3] [3] .plain (.cons (.idx (.var 0) (.k (.int 0))) .nil) (.or (.not (.isi (.var 3) ["str"])) (.cmp .notin (.var 3) (.var 1))) (.k (.int 1))) (.lst .nil)) (.ret (.k (.bl false))) .skip)
    (.ret (.and (.isi (.idx (.var 0) (.k (.int 1))) ["str"]) (.cmp .isin (.idx (.var 0) (.k (.int 1))) (.call "_law_deeds" .nil)))))))⟩
def d__law_is_rule : FnDef := ⟨1, 2,
    (.seq (.ife (.or (.not (.isi (.var 0) ["tuple"])) (.cmp .gt (.bi .len (.cons (.var 0) .nil)) (.k (.int 8)))) (.ret (.k (.bl false))) .skip)
    (.ret (.cmp .eq (.comp [1] [1] .plain (.cons (.var 0) .nil) (.not (.call "_law_is_clause" (.cons (.var 1) .nil))) (.k (.int 1))) (.lst .nil))))⟩
def d__law_is_stand : FnDef := ⟨2, 5,
    (.seq (.ife (.or (.not (.isi (.var 1) ["tuple"])) (.or (.cmp .ne (.bi .len (.cons (.var 1) .nil)) (.k (.int 2))) (.or (.not (.isi (.idx (.var 1) (.k (.int 0))) ["tuple"])) (.cmp .gt (.bi .len (.cons (.idx (.var 1) (.k (.int 0))) .nil)) (.var 0))))) (.ret (.k (.bl false))) .skip)
    (.seq (.loop [2] .plain (.cons (.idx (.var 1) (.k (.int 0))) .nil) (.ife (.or (.not (.isi (.var 2) ["tuple"])) (.or (.cmp .ne (.bi .len (.cons (.var 2) .nil)) (.k (.int 3))) (.cmp .ne (.comp [4] [4] .plain (.cons (.var 2) .nil) (.not (.isi (.var 4) ["bool"])) (.k (.int 1))) (.lst .nil)))) (.ret (.k (.bl false))) .skip))
    (.seq (.set [3] (.idx (.var 1) (.k (.int 1))))
    (.ret (.and (.isi (.var 3) ["int"]) (.and (.not (.isi (.var 3) ["bool"])) (.chain .le .lt (.neg (.k (.int 1))) (.var 3) (.bi .len (.cons (.idx (.var 1) (.k (.int 0))) .nil)))))))))⟩
def d_look_at_stand : FnDef := ⟨2, 2,
    (.ife (.not (.call "fits" (.cons (.var 0) (.cons (.var 1) .nil)))) (.raise "InvalidStand") .skip)⟩
def d_flags_of : FnDef := ⟨1, 2,
    (.ret (.bi .tuple (.cons (.comp [1] [1] .plain (.cons (.idx (.var 0) (.k (.int 0))) .nil) .nil (.idx (.var 1) (.k (.int 0)))) .nil)))⟩
def d_is_like : FnDef := ⟨2, 3,
    (.seq (.ife (.or (.not (.isi (.var 0) ["tuple"])) (.or (.cmp .eq (.var 0) (.tup .nil)) (.not (.isi (.idx (.var 0) (.k (.int 0))) ["str"])))) (.ret (.k (.bl false))) .skip)
    (.seq (.ife (.not (.bi .all (.cons (.comp [2] [2] .plain (.cons (.slc (.var 0) (.k (.int 1)) .nil) .nil) .nil (.and (.isi (.var 2) ["int"]) (.not (.isi (.var 2) ["bool"])))) .nil))) (.ret (.k (.bl false))) .skip)
    (.ret (.cmp .isin (.var 0) (.var 1)))))⟩
def d_put_in : FnDef := ⟨3, 3,
    (.ret (.bin .add (.bin .add (.slc (.var 2) .nil (.var 1)) (.tup (.cons (.var 0) .nil))) (.slc (.var 2) (.var 1) .nil)))⟩
def d_left_out : FnDef := ⟨2, 2,
    (.ret (.bin .add (.slc (.var 1) .nil (.var 0)) (.slc (.var 1) (.bin .add (.var 0) (.k (.int 1))) .nil)))⟩
def d_flags_behind : FnDef := ⟨2, 2,
    (.seq (.ife (.cmp .eq (.idx (.var 1) (.k (.int 0))) (.k (.str (Str.ofString "come")))) (.ret (.call "put_in" (.cons (.k (.bl true)) (.cons (.idx (.var 1) (.k (.int 1))) (.cons (.var 0) .nil))))) .skip)
    (.seq (.ife (.cmp .eq (.idx (.var 1) (.k (.int 0))) (.k (.str (Str.ofString "go")))) (.ret (.call "left_out" (.cons (.idx (.var 1) (.k (.int 1))) (.cons (.var 0) .nil)))) .skip)
    (.seq (.ife (.or (.cmp .eq (.idx (.var 1) (.k (.int 0))) (.k (.str (Str.ofString "hide")))) (.cmp .eq (.idx (.var 1) (.k (.int 0))) (.k (.str (Str.ofString "show"))))) (.ret (.call "put_in" (.cons (.cmp .eq (.idx (.var 1) (.k (.int 0))) (.k (.str (Str.ofString "show")))) (.cons (.idx (.var 1) (.k (.int 1))) (.cons (.call "left_out" (.cons (.idx (.var 1) (.k (.int 1))) (.cons (.var 0) .nil))) .nil))))) .skip)
    (.seq (.ife (.cmp .eq (.idx (.var 1) (.k (.int 0))) (.k (.str (Str.ofString "move")))) (.ret (.call "put_in" (.cons (.idx (.var 0) (.idx (.var 1) (.k (.int 1)))) (.cons (.idx (.var 1) (.k (.int 2))) (.cons (.call "left_out" (.cons (.idx (.var 1) (.k (.int 1))) (.cons (.var 0) .nil))) .nil))))) .skip)
    (.ret (.var 0))))))⟩
def d_goes : FnDef := ⟨3, 4,
    (.seq (.loop [3] .plain (.cons (.var 2) .nil) (.seq (.ife (.not (.call "is_like" (.cons (.var 3) (.cons (.call "events_of" (.cons (.var 0) (.cons (.var 1) .nil))) .nil)))) (.ret (.k (.bl false))) .skip)
    (.set [1] (.call "flags_behind" (.cons (.var 1) (.cons (.var 3) .nil))))))
    (.ret (.k (.bl true))))⟩
def d_fits_history : FnDef := ⟨2, 2,
    (.ret (.and (.isi (.var 1) ["tuple"]) (.and (.cmp .le (.bi .len (.cons (.var 1) .nil)) (.glob "MOST_EVENTS")) (.call "goes" (.cons (.var 0) (.cons (.tup .nil) (.cons (.var 1) .nil)))))))⟩
def d_is_history : FnDef := ⟨2, 2,
    (.seq (.expr (.call "look_at_most" (.cons (.var 0) .nil)))
    (.ret (.call "fits_history" (.cons (.var 0) (.cons (.var 1) .nil)))))⟩
def d_events_at : FnDef := ⟨2, 2,
    (.seq (.expr (.call "look_at_most" (.cons (.var 0) .nil)))
    (.seq (.expr (.call "look_at_stand" (.cons (.var 0) (.cons (.var 1) .nil))))
    (.ret (.call "events_of" (.cons (.var 0) (.cons (.call "flags_of" (.cons (.var 1) .nil)) .nil))))))⟩
def d__law_begun : FnDef := ⟨0, 0,
    (.ret (.lst (.cons (.lst .nil) (.cons (.k (.int 0)) (.cons (.k (.int 0)) .nil)))))⟩
def d__law_deed : FnDef := ⟨4, 7,
    (.seq (.loop [4, 5] .plain (.cons (.var 0) .nil) (.ife (.cmp .eq (.comp [6] [6] .plain (.cons (.var 4) .nil) (.not (.call "_law_holds" (.cons (.var 6) (.cons (.var 1) (.cons (.var 2) (.cons (.var 3) .nil)))))) (.var 6)) (.lst .nil)) (.ret (.var 5)) .skip))
    (.ret (.k (.str (Str.ofString "keep")))))⟩
def d__law_act : FnDef := ⟨3, 3,
    (.ife (.cmp .isin (.idx (.var 2) (.k (.int 0))) (.lst (.cons (.k (.str (Str.ofString "come"))) (.cons (.k (.str (Str.ofString "go"))) (.cons (.k (.str (Str.ofString "hide"))) (.cons (.k (.str (Str.ofString "show"))) (.cons (.k (.str (Str.ofString "move"))) .nil))))))) (.expr (.call "_law_changed" (.cons (.var 0) (.cons (.var 1) (.cons (.var 2) .nil))))) (.ife (.cmp .ne (.var 2) (.tup (.cons (.k (.str (Str.ofString "act"))) .nil))) (.expr (.call "_law_handled" (.cons (.var 1) (.cons (.var 2) .nil)))) .skip))⟩
def d__law_reached : FnDef := ⟨2, 6,
    (.seq (.own 2 1 (.lst .nil))
    (.seq (.loop [3, 4] .enum (.cons (.idx (.var 1) (.k (.int 0))) .nil) (.seq (.set [5] (.call "_law_deed" (.cons (.var 0) (.cons (.var 1) (.cons (.k (.str (Str.ofString "act"))) (.cons (.var 4) .nil))))))
    (.ife (.or (.cmp .eq (.var 5) (.k (.str (Str.ofString "reach")))) (.and (.cmp .ne (.var 5) (.k (.str (Str.ofString "spare")))) (.idx (.var 4) (.k (.int 1))))) (.app 2 (.var 3)) .skip)))
    (.frz 2 (.ret (.bi .tuple (.cons (.var 2) .nil))))))⟩
def d__law_stand : FnDef := ⟨1, 4,
    (.seq (.set [1] (.comp [2, 3] [2, 3] .enum (.cons (.idx (.var 0) (.k (.int 0))) .nil) (.cmp .eq (.idx (.var 3) (.k (.int 3))) (.idx (.var 0) (.k (.int 1)))) (.var 2)))
    (.ret (.tup (.cons (.bi .tuple (.cons (.comp [3] [3] .plain (.cons (.idx (.var 0) (.k (.int 0))) .nil) .nil (.bi .tuple (.cons (.slc (.var 3) .nil (.k (.int 3))) .nil))) .nil)) (.cons (.idx (.bin .add (.lst (.cons (.neg (.k (.int 1))) .nil)) (.var 1)) (.neg (.k (.int 1)))) .nil)))))⟩
def d__law_history : FnDef := ⟨3, 8,
    (.seq (.par [(3, 0), (4, 0)] (.cons (.call "_law_begun" .nil) (.cons (.tup .nil) .nil)))
    (.seq (.loop [5] .range (.cons (.call "_law_take" (.cons (.var 0) (.cons (.bin .add (.var 2) (.k (.int 1))) .nil))) .nil) (.seq (.set [6] (.call "_law_events" (.cons (.var 1) (.cons (.idx (.var 3) (.k (.int 0))) .nil))))
    (.seq (.set [6] (.bin .add (.var 6) (.comp [7] [7] .plain (.cons (.var 6) .nil) (.cmp .isin (.idx (.var 7) (.k (.int 0))) (.lst (.cons (.k (.str (Str.ofString "come"))) (.cons (.k (.str (Str.ofString "click"))) (.cons (.k (.str (Str.ofString "turn"))) (.cons (.k (.str (Str.ofString "hide"))) (.cons (.k (.str (Str.ofString "go"))) .nil))))))) (.var 7))))
    (.seq (.set [7] (.idx (.var 6) (.call "_law_take" (.cons (.var 0) (.cons (.bi .len (.cons (.var 6) .nil)) .nil)))))
    (.seq (.set [4] (.bin .add (.var 4) (.tup (.cons (.var 7) .nil))))
    (.ife (.cmp .isin (.idx (.var 7) (.k (.int 0))) (.lst (.cons (.k (.str (Str.ofString "come"))) (.cons (.k (.str (Str.ofString "go"))) (.cons (.k (.str (Str.ofString "hide"))) (.cons (.k (.str (Str.ofString "show"))) (.cons (.k (.str (Str.ofString "move"))) .nil))))))) (.expr (.call "_law_changed" (.cons (.tup .nil) (.cons (.var 3) (.cons (.var 7) .nil))))) .skip))))))
    (.ret (.var 4))))⟩
def d__law_is_history : FnDef := ⟨2, 5,
    (.seq (.ife (.or (.not (.isi (.var 1) ["tuple"])) (.cmp .gt (.bi .len (.cons (.var 1) .nil)) (.k (.int 40)))) (.ret (.k (.bl false))) .skip)
    (.seq (.set [2] (.call "_law_begun" .nil))
    (.seq (.loop [3] .plain (.cons (.var 1) .nil) (.seq (.ife (.cmp .eq (.comp [4] [4] .plain (.cons (.call "_law_events" (.cons (.var 0) (.cons (.idx (.var 2) (.k (.int 0))) .nil))) .nil) (.call "_law_same" (.cons (.var 4) (.cons (.var 3) .nil))) (.k (.int 1))) (.lst .nil)) (.ret (.k (.bl false))) .skip)
    (.ife (.cmp .isin (.idx (.var 3) (.k (.int 0))) (.lst (.cons (.k (.str (Str.ofString "come"))) (.cons (.k (.str (Str.ofString "go"))) (.cons (.k (.str (Str.ofString "hide"))) (.cons (.k (.str (Str.ofString "show"))) (.cons (.k (.str (Str.ofString "move"))) .nil))))))) (.expr (.call "_law_changed" (.cons (.tup .nil) (.cons (.var 2) (.cons (.var 3) .nil))))) .skip)))
    (.ret (.k (.bl true))))))⟩
def d__wall : FnDef := ⟨1, 1,
    (.while (.k (.bl true)) .skip)⟩
def d_look_at_event : FnDef := ⟨3, 3,
    (.ife (.not (.call "is_like" (.cons (.var 2) (.cons (.call "events_of" (.cons (.var 0) (.cons (.call "flags_of" (.cons (.var 1) .nil)) .nil))) .nil)))) (.raise "InvalidEvent") .skip)⟩
def d_look_at_history : FnDef := ⟨2, 2,
    (.ife (.not (.call "fits_history" (.cons (.var 0) (.cons (.var 1) .nil)))) (.raise "InvalidHistory") .skip)⟩
def d_look_at_rule : FnDef := ⟨1, 1,
    (.ife (.not (.call "is_rule" (.cons (.var 0) .nil))) (.raise "InvalidRule") .skip)⟩
def d_holds : FnDef := ⟨2, 2,
    (.ret (.ite (.cmp .isin (.var 0) (.glob "TESTS")) (.cmp .isin (.var 0) (.var 1)) (.cmp .notin (.slc (.var 0) (.k (.int 3)) .nil) (.var 1))))⟩
def d_deed_by : FnDef := ⟨2, 3,
    (.seq (.set [2] (.call "deciding" (.cons (.var 0) (.cons (.var 1) .nil))))
    (.ret (.ite (.cmp .isN (.var 2) (.k .non)) (.k (.str (Str.ofString "keep"))) (.idx (.idx (.var 0) (.var 2)) (.k (.int 1))))))⟩
def d_new_index : FnDef := ⟨2, 3,
    (.seq (.ife (.cmp .eq (.idx (.var 0) (.k (.int 0))) (.k (.str (Str.ofString "come")))) (.ret (.bin .add (.var 1) (.bi .int (.cons (.cmp .ge (.var 1) (.idx (.var 0) (.k (.int 1)))) .nil)))) .skip)
    (.seq (.ife (.cmp .eq (.idx (.var 0) (.k (.int 0))) (.k (.str (Str.ofString "go")))) (.ret (.ite (.cmp .eq (.var 1) (.idx (.var 0) (.k (.int 1)))) (.k .non) (.bin .sub (.var 1) (.bi .int (.cons (.cmp .gt (.var 1) (.idx (.var 0) (.k (.int 1)))) .nil))))) .skip)
    (.seq (.ife (.cmp .ne (.idx (.var 0) (.k (.int 0))) (.k (.str (Str.ofString "move")))) (.ret (.var 1)) .skip)
    (.seq (.ife (.cmp .eq (.var 1) (.idx (.var 0) (.k (.int 1)))) (.ret (.idx (.var 0) (.k (.int 2)))) .skip)
    (.seq (.set [2] (.bin .sub (.var 1) (.bi .int (.cons (.cmp .gt (.var 1) (.idx (.var 0) (.k (.int 1)))) .nil))))
    (.ret (.bin .add (.var 2) (.bi .int (.cons (.cmp .ge (.var 2) (.idx (.var 0) (.k (.int 2)))) .nil)))))))))⟩
def d_new_main : FnDef := ⟨2, 3,
    (.seq (.ife (.cmp .lt (.idx (.var 0) (.k (.int 1))) (.k (.int 0))) (.ret (.neg (.k (.int 1)))) .skip)
    (.seq (.set [2] (.call "new_index" (.cons (.var 1) (.cons (.idx (.var 0) (.k (.int 1))) .nil))))
    (.ret (.ite (.cmp .isN (.var 2) (.k .non)) (.neg (.k (.int 1))) (.var 2)))))⟩
def d_with_row : FnDef := ⟨3, 3,
    (.ret (.bin .add (.bin .add (.slc (.var 0) .nil (.var 1)) (.tup (.cons (.var 2) .nil))) (.slc (.var 0) (.bin .add (.var 1) (.k (.int 1))) .nil)))⟩
def d_by_hand : FnDef := ⟨3, 6,
    (.seq (.own 3 1 (.lst .nil))
    (.seq (.loop [4, 5] .enum (.cons (.var 0) .nil) (.ife (.cmp .isin (.var 4) (.var 1)) (.app 3 (.tup (.cons (.idx (.var 5) (.k (.int 0))) (.cons (.k (.bl true)) (.cons (.k (.bl true)) .nil))))) (.app 3 (.ite (.var 2) (.var 5) (.tup (.cons (.idx (.var 5) (.k (.int 0))) (.cons (.k (.bl false)) (.cons (.k (.bl false)) .nil))))))))
    (.frz 3 (.ret (.bi .tuple (.cons (.var 3) .nil))))))⟩
def d_handled : FnDef := ⟨2, 10,
    (.seq (.set [2, 3] (.var 0))
    (.seq (.set [4] (.idx (.var 1) (.k (.int 0))))
    (.seq (.ife (.cmp .eq (.var 4) (.k (.str (Str.ofString "none")))) (.ret (.tup (.cons (.call "by_hand" (.cons (.var 2) (.cons (.lst .nil) (.cons (.k (.bl false)) .nil)))) (.cons (.neg (.k (.int 1))) .nil)))) .skip)
    (.seq (.ife (.cmp .eq (.var 4) (.k (.str (Str.ofString "all")))) (.ret (.tup (.cons (.call "by_hand" (.cons (.var 2) (.cons (.comp [5, 9] [5, 9] .enum (.cons (.var 2) .nil) (.idx (.var 9) (.k (.int 0))) (.var 5)) (.cons (.k (.bl true)) .nil)))) (.cons (.var 3) .nil)))) .skip)
    (.seq (.set [5] (.idx (.var 1) (.k (.int 1))))
    (.seq (.ife (.cmp .eq (.var 4) (.k (.str (Str.ofString "turn")))) (.seq (.set [6] (.not (.idx (.idx (.var 2) (.var 5)) (.k (.int 1)))))
    (.ret (.tup (.cons (.call "with_row" (.cons (.var 2) (.cons (.var 5) (.cons (.tup (.cons (.idx (.idx (.var 2) (.var 5)) (.k (.int 0))) (.cons (.var 6) (.cons (.var 6) .nil)))) .nil)))) (.cons (.var 5) .nil))))) .skip)
    (.seq (.ife (.or (.cmp .eq (.var 4) (.k (.str (Str.ofString "click")))) (.cmp .lt (.var 3) (.k (.int 0)))) (.ret (.tup (.cons (.call "by_hand" (.cons (.var 2) (.cons (.lst (.cons (.var 5) .nil)) (.cons (.k (.bl false)) .nil)))) (.cons (.var 5) .nil)))) .skip)
    (.seq (.set [7] (.comp [8] [8] .range (.cons (.bi .min (.cons (.var 3) (.cons (.var 5) .nil))) (.cons (.bin .add (.bi .max (.cons (.var 3) (.cons (.var 5) .nil))) (.k (.int 1))) .nil)) (.idx (.idx (.var 2) (.var 8)) (.k (.int 0))) (.var 8)))
    (.ret (.tup (.cons (.call "by_hand" (.cons (.var 2) (.cons (.var 7) (.cons (.k (.bl false)) .nil)))) (.cons (.var 3) .nil))))))))))))⟩
def d_moved_to : FnDef := ⟨4, 7,
    (.seq (.set [4] (.comp [6] [6] .plain (.cons (.var 2) .nil) (.and (.cmp .ge (.var 6) (.var 1)) (.idx (.idx (.var 0) (.var 6)) (.k (.int 0)))) (.var 6)))
    (.seq (.set [5] (.comp [6] [6] .plain (.cons (.var 2) .nil) (.and (.cmp .lt (.var 6) (.var 1)) (.idx (.idx (.var 0) (.var 6)) (.k (.int 0)))) (.var 6)))
    (.seq (.ife (.and (.cmp .eq (.var 4) (.lst .nil)) (.cmp .eq (.var 5) (.lst .nil))) (.ret (.tup (.cons (.var 0) (.cons (.neg (.k (.int 1))) .nil)))) .skip)
    (.seq (.set [6] (.ite (.cmp .ne (.var 4) (.lst .nil)) (.idx (.var 4) (.k (.int 0))) (.idx (.var 5) (.neg (.k (.int 1))))))
    (.seq (.ife (.and (.cmp .eq (.var 3) (.k (.str (Str.ofString "before")))) (.cmp .ne (.var 5) (.lst .nil))) (.set [6] (.idx (.var 5) (.neg (.k (.int 1))))) .skip)
    (.ret (.tup (.cons (.call "with_row" (.cons (.var 0) (.cons (.var 6) (.cons (.tup (.cons (.idx (.idx (.var 0) (.var 6)) (.k (.int 0))) (.cons (.k (.bl true)) (.cons (.idx (.idx (.var 0) (.var 6)) (.k (.int 2))) .nil)))) .nil)))) (.cons (.var 6) .nil)))))))))⟩
def d_changed_rows : FnDef := ⟨2, 3,
    (.seq (.set [2] (.idx (.var 1) (.k (.int 1))))
    (.seq (.ife (.cmp .eq (.idx (.var 1) (.k (.int 0))) (.k (.str (Str.ofString "come")))) (.ret (.call "put_in" (.cons (.glob "NEW") (.cons (.var 2) (.cons (.var 0) .nil))))) .skip)
    (.seq (.ife (.cmp .eq (.idx (.var 1) (.k (.int 0))) (.k (.str (Str.ofString "go")))) (.ret (.call "left_out" (.cons (.var 2) (.cons (.var 0) .nil)))) .skip)
    (.seq (.ife (.cmp .eq (.idx (.var 1) (.k (.int 0))) (.k (.str (Str.ofString "move")))) (.ret (.call "put_in" (.cons (.idx (.var 0) (.var 2)) (.cons (.idx (.var 1) (.k (.int 2))) (.cons (.call "left_out" (.cons (.var 2) (.cons (.var 0) .nil))) .nil))))) .skip)
    (.ret (.call "with_row" (.cons (.var 0) (.cons (.var 2) (.cons (.bin .add (.tup (.cons (.cmp .eq (.idx (.var 1) (.k (.int 0))) (.k (.str (Str.ofString "show")))) .nil)) (.slc (.idx (.var 0) (.var 2)) (.k (.int 1)) .nil)) .nil)))))))))⟩
def d_row_of : FnDef := ⟨2, 2,
    (.seq (.ife (.cmp .eq (.idx (.var 1) (.k (.int 0))) (.k (.str (Str.ofString "come")))) (.ret (.tup (.cons (.glob "NEW") (.cons (.k (.bl false)) .nil)))) .skip)
    (.ret (.tup (.cons (.idx (.idx (.var 0) (.k (.int 0))) (.idx (.var 1) (.k (.int 1)))) (.cons (.cmp .eq (.idx (.var 1) (.k (.int 1))) (.idx (.var 0) (.k (.int 1)))) .nil)))))⟩
def d_behind_by : FnDef := ⟨3, 3,
    (.seq (.ife (.cmp .eq (.var 2) (.tup (.cons (.k (.str (Str.ofString "act"))) .nil))) (.ret (.var 1)) .skip)
    (.ret (.ite (.cmp .isin (.idx (.var 2) (.k (.int 0))) (.glob "CHANGES")) (.call "changed" (.cons (.var 0) (.cons (.var 1) (.cons (.var 2) .nil)))) (.call "handled" (.cons (.var 1) (.cons (.var 2) .nil))))))⟩
def d_reached_by : FnDef := ⟨2, 6,
    (.seq (.own 2 1 (.lst .nil))
    (.seq (.loop [3, 4] .enum (.cons (.idx (.var 1) (.k (.int 0))) .nil) (.seq (.set [5] (.call "deed_by" (.cons (.var 0) (.cons (.call "facts_of" (.cons (.var 1) (.cons (.k (.str (Str.ofString "act"))) (.cons (.var 4) (.cons (.cmp .eq (.var 3) (.idx (.var 1) (.k (.int 1)))) .nil))))) .nil))))
    (.ife (.or (.cmp .eq (.var 5) (.k (.str (Str.ofString "reach")))) (.and (.cmp .ne (.var 5) (.k (.str (Str.ofString "spare")))) (.idx (.var 4) (.k (.int 1))))) (.app 2 (.var 3)) .skip)))
    (.frz 2 (.ret (.bi .tuple (.cons (.var 2) .nil))))))⟩
def d_acted_harms : FnDef := ⟨2, 7,
    (.seq (.set [2, 3] (.tup (.cons (.call "reached_by" (.cons (.var 0) (.cons (.var 1) .nil))) (.cons (.idx (.var 1) (.k (.int 0))) .nil))))
    (.seq (.own 4 1 (.lst .nil))
    (.seq (.ife (.not (.bi .all (.cons (.comp [5] [5] .plain (.cons (.var 2) .nil) .nil (.idx (.idx (.var 3) (.var 5)) (.k (.int 0)))) .nil))) (.app 4 (.k (.str (Str.ofString "dark")))) .skip)
    (.seq (.ife (.bi .any (.cons (.comp [5, 6] [5, 6] .enum (.cons (.var 3) .nil) .nil (.and (.cmp .eq (.var 6) (.tup (.cons (.k (.bl true)) (.cons (.k (.bl true)) (.cons (.k (.bl true)) .nil))))) (.cmp .notin (.var 5) (.var 2)))) .nil)) (.app 4 (.k (.str (Str.ofString "missed")))) .skip)
    (.seq (.ife (.not (.bi .all (.cons (.comp [5] [5] .plain (.cons (.var 2) .nil) .nil (.idx (.idx (.var 3) (.var 5)) (.k (.int 2)))) .nil))) (.app 4 (.k (.str (Str.ofString "strange")))) .skip)
    (.frz 4 (.ret (.var 4))))))))⟩
def d_old_rows : FnDef := ⟨3, 7,
    (.seq (.set [3] (.bin .mul (.lst (.cons (.k .non) .nil)) (.var 2)))
    (.seq (.loop [4, 5] .enum (.cons (.idx (.var 0) (.k (.int 0))) .nil) (.seq (.set [6] (.ite (.cmp .isin (.idx (.var 1) (.k (.int 0))) (.glob "CHANGES")) (.call "new_index" (.cons (.var 1) (.cons (.var 4) .nil))) (.var 4)))
    (.ife (.cmp .isntN (.var 6) (.k .non)) (.setR (.var 3) (.var 6) (.var 5)) .skip)))
    (.ret (.var 3))))⟩
def d_stands_of : FnDef := ⟨3, 5,
    (.seq (.own 3 1 (.lst (.cons (.var 1) .nil)))
    (.seq (.loop [4] .plain (.cons (.var 2) .nil) (.app 3 (.call "behind_by" (.cons (.var 0) (.cons (.oidx 3 (.neg (.k (.int 1)))) (.cons (.var 4) .nil))))))
    (.frz 3 (.ret (.var 3)))))⟩
def d_all_harms : FnDef := ⟨3, 6,
    (.ret (.comp [3, 4, 5] [3, 4, 5] .zip (.cons (.var 1) (.cons (.var 2) (.cons (.slc (.var 1) (.k (.int 1)) .nil) .nil))) .nil (.call "harms_between" (.cons (.var 0) (.cons (.var 3) (.cons (.var 4) (.cons (.var 5) .nil)))))))⟩
def d_look_at : FnDef := ⟨2, 2,
    (.seq (.expr (.call "look_at_rule" (.cons (.var 0) .nil)))
    (.expr (.call "look_at_most" (.cons (.var 1) .nil))))⟩
def d_after : FnDef := ⟨4, 4,
    (.seq (.expr (.call "look_at" (.cons (.var 0) (.cons (.var 1) .nil))))
    (.seq (.expr (.call "look_at_stand" (.cons (.var 1) (.cons (.var 2) .nil))))
    (.seq (.expr (.call "look_at_event" (.cons (.var 1) (.cons (.var 2) (.cons (.var 3) .nil)))))
    (.ret (.call "behind_by" (.cons (.var 0) (.cons (.var 2) (.cons (.var 3) .nil))))))))⟩
def d_reached : FnDef := ⟨3, 3,
    (.seq (.expr (.call "look_at" (.cons (.var 0) (.cons (.var 1) .nil))))
    (.seq (.expr (.call "look_at_stand" (.cons (.var 1) (.cons (.var 2) .nil))))
    (.ret (.call "reached_by" (.cons (.var 0) (.cons (.var 2) .nil))))))⟩
def d_stand_behind : FnDef := ⟨3, 3,
    (.seq (.expr (.call "look_at" (.cons (.var 0) (.cons (.var 1) .nil))))
    (.seq (.expr (.call "look_at_history" (.cons (.var 1) (.cons (.var 2) .nil))))
    (.ret (.idx (.call "stands_of" (.cons (.var 0) (.cons (.glob "FIRST") (.cons (.var 2) .nil)))) (.neg (.k (.int 1)))))))⟩
def d_harms_in : FnDef := ⟨3, 3,
    (.seq (.expr (.call "look_at" (.cons (.var 0) (.cons (.var 1) .nil))))
    (.seq (.expr (.call "look_at_history" (.cons (.var 1) (.cons (.var 2) .nil))))
    (.ret (.call "all_harms" (.cons (.var 0) (.cons (.call "stands_of" (.cons (.var 0) (.cons (.glob "FIRST") (.cons (.var 2) .nil)))) (.cons (.var 2) .nil)))))))⟩
def d_sights_by : FnDef := ⟨2, 6,
    (.seq (.own 2 1 (.lst .nil))
    (.seq (.loop [3] .plain (.cons (.slc (.call "stands_of" (.cons (.var 0) (.cons (.glob "FIRST") (.cons (.var 1) .nil)))) (.k (.int 1)) .nil) .nil) (.app 2 (.bi .tuple (.cons (.comp [4, 5] [4, 5] .enum (.cons (.idx (.var 3) (.k (.int 0))) .nil) (.and (.idx (.var 5) (.k (.int 0))) (.idx (.var 5) (.k (.int 1)))) (.var 4)) .nil))))
    (.frz 2 (.ret (.bi .tuple (.cons (.var 2) .nil))))))⟩
def d_sights_of : FnDef := ⟨3, 3,
    (.seq (.expr (.call "look_at" (.cons (.var 0) (.cons (.var 1) .nil))))
    (.seq (.expr (.call "look_at_history" (.cons (.var 1) (.cons (.var 2) .nil))))
    (.ret (.call "sights_by" (.cons (.var 0) (.cons (.var 2) .nil))))))⟩
def d_is_sight : FnDef := ⟨1, 2,
    (.seq (.ife (.or (.not (.isi (.var 0) ["tuple"])) (.cmp .gt (.bi .len (.cons (.var 0) .nil)) (.k (.int 3)))) (.ret (.k (.bl false))) .skip)
    (.ret (.bi .all (.cons (.comp [1] [1] .plain (.cons (.var 0) .nil) .nil (.and (.isi (.var 1) ["int"]) (.not (.isi (.var 1) ["bool"])))) .nil))))⟩
def d_fitting : FnDef := ⟨4, 6,
    (.seq (.expr (.call "look_at_most" (.cons (.var 0) .nil)))
    (.seq (.expr (.call "look_at_history" (.cons (.var 0) (.cons (.var 1) .nil))))
    (.seq (.ife (.or (.not (.isi (.var 2) ["tuple"])) (.or (.cmp .ne (.bi .len (.cons (.var 2) .nil)) (.bi .len (.cons (.var 1) .nil))) (.not (.bi .all (.cons (.comp [5] [5] .plain (.cons (.var 2) .nil) .nil (.call "is_sight" (.cons (.var 5) .nil))) .nil))))) (.raise "InvalidSights") .skip)
    (.seq (.ife (.or (.not (.isi (.var 3) ["tuple"])) (.not (.chain .le .le (.k (.int 1)) (.bi .len (.cons (.var 3) .nil)) (.k (.int 4))))) (.raise "InvalidCandidates") .skip)
    (.seq (.ife (.not (.bi .all (.cons (.comp [5] [5] .plain (.cons (.var 3) .nil) .nil (.call "is_rule" (.cons (.var 5) .nil))) .nil))) (.raise "InvalidCandidates") .skip)
    (.ret (.comp [4, 5] [4, 5] .enum (.cons (.var 3) .nil) (.cmp .eq (.call "sights_by" (.cons (.var 5) (.cons (.var 1) .nil))) (.var 2)) (.var 4))))))))⟩
def d_harms : FnDef := ⟨2, 2,
    (.seq (.expr (.call "look_at" (.cons (.var 0) (.cons (.var 1) .nil))))
    (.ret (.call "harms_by" (.cons (.var 0) (.cons (.var 1) .nil)))))⟩
def d_fewest_clauses : FnDef := ⟨3, 9,
    (.seq (.expr (.call "look_at" (.cons (.var 0) (.cons (.var 1) .nil))))
    (.seq (.ife (.or (.not (.isi (.var 2) ["tuple"])) (.not (.bi .all (.cons (.comp [7] [7] .plain (.cons (.var 2) .nil) .nil (.call "is_one_of" (.cons (.var 7) (.cons (.glob "HARMS") .nil)))) .nil)))) (.raise "InvalidHarm") .skip)
    (.seq (.ife (.not (.bi .all (.cons (.comp [5, 6] [5, 6] .zip (.cons (.var 2) (.cons (.slc (.var 2) (.k (.int 1)) .nil) .nil)) .nil (.cmp .lt (.var 5) (.var 6))) .nil))) (.raise "InvalidHarm") .skip)
    (.seq (.loop [3] .plain (.cons (.call "parts_of" (.cons (.bi .len (.cons (.var 0) .nil)) .nil)) .nil) (.seq (.set [4] (.call "harms_by" (.cons (.bi .tuple (.cons (.comp [8] [8] .plain (.cons (.var 3) .nil) .nil (.idx (.var 0) (.var 8))) .nil)) (.cons (.var 1) .nil))))
    (.ife (.not (.bi .any (.cons (.comp [7] [7] .plain (.cons (.var 2) .nil) .nil (.cmp .isin (.var 7) (.var 4))) .nil))) (.ret (.var 3)) .skip)))
    (.ret (.k .non))))))⟩
def d_rule_text : FnDef := ⟨1, 1,
    (.seq (.expr (.call "look_at_rule" (.cons (.var 0) .nil)))
    (.ret (.call "text_of" (.cons (.var 0) .nil))))⟩
def d_joined : FnDef := ⟨2, 2,
    (.seq (.ife (.cmp .gt (.bin .add (.bi .len (.cons (.var 0) .nil)) (.bi .len (.cons (.var 1) .nil))) (.glob "MOST_CLAUSES")) (.raise "TooMany") .skip)
    (.ret (.bin .add (.var 0) (.var 1))))⟩
def d_look_at_index : FnDef := ⟨2, 2,
    (.ife (.not (.call "is_within" (.cons (.var 1) (.cons (.k (.int 0)) (.cons (.bin .sub (.var 0) (.k (.int 1))) .nil))))) (.raise "InvalidIndex") .skip)⟩
def d_outcome : FnDef := ⟨3, 3,
    (.ret (.ite (.cmp .eq (.var 2) (.tup (.cons (.k (.str (Str.ofString "act"))) .nil))) (.call "reached_by" (.cons (.var 0) (.cons (.var 1) .nil))) (.call "behind_by" (.cons (.var 0) (.cons (.var 1) (.cons (.var 2) .nil))))))⟩
def d_parting : FnDef := ⟨3, 3,
    (.seq (.expr (.call "look_at_rule" (.cons (.var 0) .nil)))
    (.seq (.expr (.call "look_at_rule" (.cons (.var 1) .nil)))
    (.seq (.expr (.call "look_at_most" (.cons (.var 2) .nil)))
    (.ret (.call "parting_by" (.cons (.var 0) (.cons (.var 1) (.cons (.var 2) .nil))))))))⟩
def d_needless : FnDef := ⟨2, 4,
    (.seq (.expr (.call "look_at" (.cons (.var 0) (.cons (.var 1) .nil))))
    (.seq (.own 2 1 (.lst .nil))
    (.seq (.loop [3] .range (.cons (.bi .len (.cons (.var 0) .nil)) .nil) (.ife (.cmp .isN (.call "parting_by" (.cons (.var 0) (.cons (.bin .add (.slc (.var 0) .nil (.var 3)) (.slc (.var 0) (.bin .add (.var 3) (.k (.int 1))) .nil)) (.cons (.var 1) .nil)))) (.k .non)) (.app 2 (.var 3)) .skip))
    (.frz 2 (.ret (.var 2))))))⟩
def d_looks_of : FnDef := ⟨2, 7,
    (.seq (.own 2 1 (.comp [6, 4] [6, 4] .enum (.cons (.idx (.var 1) (.k (.int 0))) .nil) .nil (.call "facts_of" (.cons (.var 1) (.cons (.k (.str (Str.ofString "act"))) (.cons (.var 4) (.cons (.cmp .eq (.var 6) (.idx (.var 1) (.k (.int 1)))) .nil)))))))
    (.seq (.loop [3] .plain (.cons (.call "events_of" (.cons (.var 0) (.cons (.call "flags_of" (.cons (.var 1) .nil)) .nil))) .nil) (.ife (.cmp .isin (.idx (.var 3) (.k (.int 0))) (.glob "DECIDED")) (.seq (.set [4, 5] (.call "row_of" (.cons (.var 1) (.cons (.var 3) .nil))))
    (.app 2 (.call "facts_of" (.cons (.var 1) (.cons (.idx (.var 3) (.k (.int 0))) (.cons (.var 4) (.cons (.var 5) .nil))))))) .skip))
    (.frz 2 (.ret (.var 2)))))⟩
def d__law_all : FnDef := ⟨2, 3,
    (.ret (.cmp .eq (.comp [2] [2] .plain (.cons (.var 0) .nil) (.not (.call "_law_same" (.cons (.call "_law_tried" (.cons (.var 2) .nil)) (.cons (.var 1) .nil)))) (.k (.int 1))) (.lst .nil)))⟩
def d__law_any_stand : FnDef := ⟨2, 5,
    (.seq (.own 2 1 (.lst .nil))
    (.seq (.loop [3] .range (.cons (.call "_law_take" (.cons (.var 0) (.cons (.bin .add (.var 1) (.k (.int 1))) .nil))) .nil) (.app 2 (.bi .tuple (.cons (.comp [4] [4] .range (.cons (.k (.int 3)) .nil) .nil (.cmp .eq (.call "_law_take" (.cons (.var 0) (.cons (.k (.int 2)) .nil))) (.k (.int 0)))) .nil))))
    (.frz 2 (.ret (.tup (.cons (.bi .tuple (.cons (.var 2) .nil)) (.cons (.bin .sub (.call "_law_take" (.cons (.var 0) (.cons (.bin .add (.bi .len (.cons (.var 2) .nil)) (.k (.int 1))) .nil))) (.k (.int 1))) .nil)))))))⟩
def d__law_harm_names : FnDef := ⟨0, 0,
    (.ret (.lst (.cons (.k (.str (Str.ofString "dark"))) (.cons (.k (.str (Str.ofString "grown"))) (.cons (.k (.str (Str.ofString "lost"))) (.cons (.k (.str (Str.ofString "missed"))) (.cons (.k (.str (Str.ofString "strange"))) (.cons (.k (.str (Str.ofString "unseen"))) .nil))))))))⟩
def d__law_other : FnDef := ⟨2, 4,
    (.seq (.par [(2, 0), (3, 0)] (.cons (.call "_law_take" (.cons (.var 0) (.cons (.k (.int 5)) .nil))) (.cons (.call "_law_take" (.cons (.var 0) (.cons (.bin .add (.bi .len (.cons (.var 1) .nil)) (.k (.int 1))) .nil))) .nil)))
    (.seq (.ife (.cmp .eq (.var 2) (.k (.int 0))) (.ret (.call "_law_rule" (.cons (.var 0) (.cons (.k (.int 5)) .nil)))) .skip)
    (.seq (.ife (.cmp .eq (.var 2) (.k (.int 1))) (.ret (.bin .add (.slc (.var 1) .nil (.var 3)) (.slc (.var 1) (.bin .add (.var 3) (.k (.int 1))) .nil))) .skip)
    (.seq (.ife (.cmp .eq (.var 2) (.k (.int 2))) (.ret (.bin .add (.bin .add (.slc (.var 1) .nil (.var 3)) (.tup (.cons (.call "_law_clause" (.cons (.var 0) .nil)) .nil))) (.slc (.var 1) (.bin .add (.var 3) (.k (.int 1))) .nil))) .skip)
    (.ret (.slc (.bin .add (.bin .add (.slc (.var 1) .nil (.var 3)) (.tup (.cons (.call "_law_clause" (.cons (.var 0) .nil)) .nil))) (.slc (.var 1) (.var 3) .nil)) .nil (.k (.int 8))))))))⟩
def d__law_end : FnDef := ⟨2, 4,
    (.seq (.set [2] (.call "_law_begun" .nil))
    (.seq (.loop [3] .plain (.cons (.var 1) .nil) (.expr (.call "_law_act" (.cons (.var 0) (.cons (.var 2) (.cons (.var 3) .nil))))))
    (.ret (.lst (.cons (.call "_law_stand" (.cons (.var 2) .nil)) (.cons (.call "_law_reached" (.cons (.var 0) (.cons (.var 2) .nil))) .nil))))))⟩
def d__law_first : FnDef := ⟨4, 7,
    (.seq (.loop [4, 5] .enum (.cons (.var 0) .nil) (.ife (.cmp .eq (.comp [6] [6] .plain (.cons (.idx (.var 5) (.k (.int 0))) .nil) (.not (.call "_law_holds" (.cons (.var 6) (.cons (.var 1) (.cons (.var 2) (.cons (.var 3) .nil)))))) (.var 6)) (.lst .nil)) (.ret (.var 4)) .skip))
    (.ret (.k .non)))⟩
def d__law_looks : FnDef := ⟨2, 5,
    (.seq (.set [2] (.call "_law_of" (.cons (.var 1) .nil)))
    (.seq (.own 3 1 (.comp [4] [4] .plain (.cons (.idx (.var 2) (.k (.int 0))) .nil) .nil (.tup (.cons (.k (.str (Str.ofString "act"))) (.cons (.var 4) .nil)))))
    (.seq (.loop [4] .plain (.cons (.idx (.var 2) (.k (.int 0))) .nil) (.frz 3 (.own 3 1 (.bin .add (.var 3) (.lst (.cons (.tup (.cons (.k (.str (Str.ofString "go"))) (.cons (.var 4) .nil))) (.cons (.tup (.cons (.ite (.idx (.var 4) (.k (.int 0))) (.k (.str (Str.ofString "hide"))) (.k (.str (Str.ofString "show")))) (.cons (.var 4) .nil))) .nil)))))))
    (.seq (.ife (.cmp .lt (.bi .len (.cons (.idx (.var 2) (.k (.int 0))) .nil)) (.var 0)) (.app 3 (.tup (.cons (.k (.str (Str.ofString "come"))) (.cons (.lst (.cons (.k (.bl true)) (.cons (.k (.bl false)) (.cons (.k (.bl false)) (.cons (.bin .add (.bi .len (.cons (.idx (.var 2) (.k (.int 0))) .nil)) (.k (.int 1))) .nil))))) .nil)))) .skip)
    (.frz 3 (.ret (.var 3)))))))⟩
def d__law_sights : FnDef := ⟨2, 7,
    (.seq (.par [(2, 0), (3, 0)] (.cons (.call "_law_begun" .nil) (.cons (.tup .nil) .nil)))
    (.seq (.loop [4] .plain (.cons (.var 1) .nil) (.seq (.expr (.call "_law_act" (.cons (.var 0) (.cons (.var 2) (.cons (.var 4) .nil)))))
    (.set [3] (.bin .add (.var 3) (.tup (.cons (.bi .tuple (.cons (.comp [5, 6] [5, 6] .enum (.cons (.idx (.var 2) (.k (.int 0))) .nil) (.and (.idx (.var 6) (.k (.int 0))) (.idx (.var 6) (.k (.int 1)))) (.var 5)) .nil)) .nil))))))
    (.ret (.var 3))))⟩
def d__law_peeled : FnDef := ⟨1, 9,
    (.seq (.set [1] (.comp [6] [6] .plain (.cons (.call "_law_deeds" .nil) .nil) (.cmp .eq (.slc (.var 0) (.bin .sub (.neg (.bi .len (.cons (.var 6) .nil))) (.k (.int 2))) .nil) (.bin .add (.k (.str (Str.ofString ": "))) (.var 6))) (.var 6)))
    (.seq (.ife (.cmp .eq (.var 1) (.lst .nil)) (.ret (.k .non)) .skip)
    (.seq (.set [2, 3] (.tup (.cons (.slc (.var 0) .nil (.bin .sub (.neg (.bi .len (.cons (.idx (.var 1) (.k (.int 0))) .nil))) (.k (.int 2)))) (.cons (.tup .nil) .nil))))
    (.seq (.ife (.cmp .eq (.var 2) (.k (.str (Str.ofString "always")))) (.ret (.tup (.cons (.tup .nil) (.cons (.idx (.var 1) (.k (.int 0))) .nil)))) .skip)
    (.seq (.set [4] (.bin .add (.call "_law_tests" .nil) (.comp [7] [7] .plain (.cons (.call "_law_tests" .nil) .nil) .nil (.bin .add (.k (.str (Str.ofString "no "))) (.var 7)))))
    (.seq (.while (.cmp .lt (.bi .len (.cons (.var 3) .nil)) (.k (.int 3))) (.seq (.ife (.cmp .isin (.var 2) (.var 4)) (.ret (.tup (.cons (.bin .add (.var 3) (.tup (.cons (.var 2) .nil))) (.cons (.idx (.var 1) (.k (.int 0))) .nil)))) .skip)
    (.seq (.set [5] (.comp [8] [8] .plain (.cons (.var 4) .nil) (.cmp .eq (.slc (.var 2) .nil (.bin .add (.bi .len (.cons (.var 8) .nil)) (.k (.int 2)))) (.bin .add (.var 8) (.k (.str (Str.ofString ", "))))) (.var 8)))
    (.seq (.ife (.cmp .eq (.var 5) (.lst .nil)) (.ret (.k .non)) .skip)
    (.set [3, 2] (.tup (.cons (.bin .add (.var 3) (.tup (.cons (.idx (.var 5) (.k (.int 0))) .nil))) (.cons (.slc (.var 2) (.bin .add (.bi .len (.cons (.idx (.var 5) (.k (.int 0))) .nil)) (.k (.int 2))) .nil) .nil))))))))
    (.ret (.k .non))))))))⟩
def d__law_mixed : FnDef := ⟨1, 7,
    (.seq (.set [1] (.k (.str (Str.ofString ""))))
    (.seq (.loop [2] .range (.cons (.call "_law_take" (.cons (.var 0) (.cons (.k (.int 11)) .nil))) .nil) (.seq (.set [3] (.idx (.lst (.cons (.k (.str (Str.ofString "always"))) (.cons (.k (.str (Str.ofString ""))) (.cons (.k (.str (Str.ofString "no "))) .nil)))) (.call "_law_take" (.cons (.var 0) (.cons (.k (.int 3)) .nil)))))
    (.seq (.loop [4] .range (.cons (.ite (.cmp .ne (.var 3) (.k (.str (Str.ofString "always")))) (.bin .add (.k (.int 1)) (.call "_law_take" (.cons (.var 0) (.cons (.k (.int 3)) .nil)))) (.k (.int 0))) .nil) (.set [3] (.bin .add (.bin .add (.var 3) (.ite (.cmp .gt (.var 4) (.k (.int 0))) (.k (.str (Str.ofString ", "))) (.k (.str (Str.ofString ""))))) (.idx (.call "_law_tests" .nil) (.call "_law_take" (.cons (.var 0) (.cons (.k (.int 10)) .nil)))))))
    (.seq (.set [5] (.idx (.lst (.cons (.k (.str (Str.ofString ": "))) (.cons (.k (.str (Str.ofString ": "))) (.cons (.k (.str (Str.ofString ": "))) (.cons (.k (.str (Str.ofString ": "))) (.cons (.k (.str (Str.ofString ": "))) (.cons (.k (.str (Str.ofString ":"))) (.cons (.k (.str (Str.ofString ", "))) (.cons (.k (.str (Str.ofString " : "))) .nil))))))))) (.call "_law_take" (.cons (.var 0) (.cons (.k (.int 8)) .nil)))))
    (.seq (.set [6] (.ite (.cmp .eq (.call "_law_take" (.cons (.var 0) (.cons (.k (.int 12)) .nil))) (.k (.int 0))) (.idx (.bin .add (.call "_law_deeds" .nil) (.lst (.cons (.k (.str (Str.ofString "go"))) (.cons (.k (.str (Str.ofString "Next"))) .nil)))) (.call "_law_take" (.cons (.var 0) (.cons (.k (.int 9)) .nil)))) (.k (.str (Str.ofString "keep")))))
    (.seq (.set [6] (.ite (.cmp .eq (.var 6) (.k (.str (Str.ofString "keep")))) (.idx (.call "_law_deeds" .nil) (.call "_law_take" (.cons (.var 0) (.cons (.k (.int 7)) .nil)))) (.var 6)))
    (.set [1] (.bin .add (.bin .add (.bin .add (.bin .add (.var 1) (.idx (.lst (.cons (.k (.str (Str.ofString "\n"))) (.cons (.k (.str (Str.ofString "\n"))) (.cons (.k (.str (Str.ofString "\n"))) (.cons (.k (.str (Str.ofString "\n\n"))) .nil))))) (.ite (.cmp .gt (.var 2) (.k (.int 3))) (.call "_law_take" (.cons (.var 0) (.cons (.k (.int 4)) .nil))) (.k (.int 0))))) (.var 3)) (.var 5)) (.var 6)))))))))
    (.ret (.ite (.cmp .gt (.call "_law_take" (.cons (.var 0) (.cons (.k (.int 9)) .nil))) (.k (.int 0))) (.slc (.var 1) (.k (.int 1)) .nil) (.var 1)))))⟩
def d__law_drawn : FnDef := ⟨5, 10,
    (.seq (.set [5] (.tup .nil))
    (.seq (.loop [6] .range (.cons (.call "_law_take" (.cons (.var 0) (.cons (.bin .add (.var 4) (.k (.int 1))) .nil))) .nil) (.seq (.set [7] (.call "_law_events" (.cons (.var 2) (.cons (.idx (.var 3) (.k (.int 0))) .nil))))
    (.seq (.set [8] (.idx (.var 7) (.call "_law_take" (.cons (.var 0) (.cons (.bi .len (.cons (.var 7) .nil)) .nil)))))
    (.par [(5, 0), (3, 0)] (.cons (.bin .add (.var 5) (.tup (.cons (.var 8) .nil))) (.cons (.idx (.call "_law_harms" (.cons (.var 1) (.cons (.var 3) (.cons (.var 8) .nil)))) (.k (.int 1))) .nil))))))
    (.seq (.ife (.cmp .eq (.call "_law_take" (.cons (.var 0) (.cons (.k (.int 5)) .nil))) (.k (.int 0))) (.seq (.set [9] (.idx (.lst (.cons (.tup (.cons (.k (.str (Str.ofString "go"))) (.cons (.k (.int 3)) .nil))) (.cons (.tup (.cons (.k (.str (Str.ofString "show"))) (.cons (.k (.int 0)) .nil))) (.cons (.tup (.cons (.k (.str (Str.ofString "pick"))) .nil)) (.cons (.tup .nil) (.cons (.k .non) (.cons (.k (.str (Str.ofString "act"))) (.cons (.tup (.cons (.k (.str (Str.ofString "click"))) (.cons (.k (.bl true)) .nil))) (.cons (.lst (.cons (.k (.str (Str.ofString "act"))) .nil)) .nil))))))))) (.call "_law_take" (.cons (.var 0) (.cons (.k (.int 8)) .nil)))))
    (.set [5] (.bin .add (.slc (.var 5) (.k (.int 1)) .nil) (.tup (.cons (.var 9) .nil))))) .skip)
    (.ret (.var 5)))))⟩
def d__law_good : FnDef := ⟨1, 2,
    (.seq (.ife (.or (.not (.isi (.var 0) ["tuple"])) (.cmp .eq (.var 0) (.tup .nil))) (.ret (.k (.bl false))) .skip)
    (.ret (.cmp .eq (.comp [1] [1] .plain (.cons (.slc (.var 0) (.k (.int 1)) .nil) .nil) (.isi (.var 1) ["bool"]) (.k (.int 1))) (.lst .nil))))⟩
def T0 : Tbl
  | "is_one_of" => some d_is_one_of
  | "is_test" => some d_is_test
  | "is_clause" => some d_is_clause
  | "is_rule" => some d_is_rule
  | "is_within" => some d_is_within
  | "look_at_most" => some d_look_at_most
  | "is_row" => some d_is_row
  | "fits" => some d_fits
  | "is_stand" => some d_is_stand
  | "_law_well" => some d__law_well
  | "_law_take" => some d__law_take
  | "_law_bags" => some d__law_bags
  | "_law_same" => some d__law_same
  | "_law_tests" => some d__law_tests
  | "_law_deeds" => some d__law_deeds
  | "_law_test" => some d__law_test
  | "_law_clause" => some d__law_clause
  | "_law_known" => some d__law_known
  | "_law_rule" => some d__law_rule
  | "_law_is_clause" => some d__law_is_clause
  | "_law_is_rule" => some d__law_is_rule
  | "_law_is_stand" => some d__law_is_stand
  | "look_at_stand" => some d_look_at_stand
  | "flags_of" => some d_flags_of
  | "is_like" => some d_is_like
  | "put_in" => some d_put_in
  | "left_out" => some d_left_out
  | "flags_behind" => some d_flags_behind
  | "goes" => some d_goes
  | "fits_history" => some d_fits_history
  | "is_history" => some d_is_history
  | "events_at" => some d_events_at
  | "_law_begun" => some d__law_begun
  | "_law_deed" => some d__law_deed
  | "_law_act" => some d__law_act
  | "_law_reached" => some d__law_reached
  | "_law_stand" => some d__law_stand
  | "_law_history" => some d__law_history
  | "_law_is_history" => some d__law_is_history
  | "_wall" => some d__wall
  | "look_at_event" => some d_look_at_event
  | "look_at_history" => some d_look_at_history
  | "look_at_rule" => some d_look_at_rule
  | "holds" => some d_holds
  | "deed_by" => some d_deed_by
  | "new_index" => some d_new_index
  | "new_main" => some d_new_main
  | "with_row" => some d_with_row
  | "by_hand" => some d_by_hand
  | "handled" => some d_handled
  | "moved_to" => some d_moved_to
  | "changed_rows" => some d_changed_rows
  | "row_of" => some d_row_of
  | "behind_by" => some d_behind_by
  | "reached_by" => some d_reached_by
  | "acted_harms" => some d_acted_harms
  | "old_rows" => some d_old_rows
  | "stands_of" => some d_stands_of
  | "all_harms" => some d_all_harms
  | "look_at" => some d_look_at
  | "after" => some d_after
  | "reached" => some d_reached
  | "stand_behind" => some d_stand_behind
  | "harms_in" => some d_harms_in
  | "sights_by" => some d_sights_by
  | "sights_of" => some d_sights_of
  | "is_sight" => some d_is_sight
  | "fitting" => some d_fitting
  | "harms" => some d_harms
  | "fewest_clauses" => some d_fewest_clauses
  | "rule_text" => some d_rule_text
  | "joined" => some d_joined
  | "look_at_index" => some d_look_at_index
  | "outcome" => some d_outcome
  | "parting" => some d_parting
  | "needless" => some d_needless
  | "looks_of" => some d_looks_of
  | "_law_all" => some d__law_all
  | "_law_any_stand" => some d__law_any_stand
  | "_law_harm_names" => some d__law_harm_names
  | "_law_other" => some d__law_other
  | "_law_end" => some d__law_end
  | "_law_first" => some d__law_first
  | "_law_looks" => some d__law_looks
  | "_law_sights" => some d__law_sights
  | "_law_peeled" => some d__law_peeled
  | "_law_mixed" => some d__law_mixed
  | "_law_drawn" => some d__law_drawn
  | "_law_good" => some d__law_good
  | _ => none
def T0sub (T : Tbl) : Prop := ∀ f d, T0 f = some d → T f = some d
theorem t_is_one_of {T : Tbl} (h : T0sub T) : T "is_one_of" = some d_is_one_of := h _ _ (by rfl)
theorem t_is_test {T : Tbl} (h : T0sub T) : T "is_test" = some d_is_test := h _ _ (by rfl)
theorem t_is_clause {T : Tbl} (h : T0sub T) : T "is_clause" = some d_is_clause := h _ _ (by rfl)
theorem t_is_rule {T : Tbl} (h : T0sub T) : T "is_rule" = some d_is_rule := h _ _ (by rfl)
theorem t_is_within {T : Tbl} (h : T0sub T) : T "is_within" = some d_is_within := h _ _ (by rfl)
theorem t_look_at_most {T : Tbl} (h : T0sub T) : T "look_at_most" = some d_look_at_most := h _ _ (by rfl)
theorem t_is_row {T : Tbl} (h : T0sub T) : T "is_row" = some d_is_row := h _ _ (by rfl)
theorem t_fits {T : Tbl} (h : T0sub T) : T "fits" = some d_fits := h _ _ (by rfl)
theorem t_is_stand {T : Tbl} (h : T0sub T) : T "is_stand" = some d_is_stand := h _ _ (by rfl)
theorem t__law_well {T : Tbl} (h : T0sub T) : T "_law_well" = some d__law_well := h _ _ (by rfl)
theorem t__law_take {T : Tbl} (h : T0sub T) : T "_law_take" = some d__law_take := h _ _ (by rfl)
theorem t__law_bags {T : Tbl} (h : T0sub T) : T "_law_bags" = some d__law_bags := h _ _ (by rfl)
theorem t__law_same {T : Tbl} (h : T0sub T) : T "_law_same" = some d__law_same := h _ _ (by rfl)
theorem t__law_tests {T : Tbl} (h : T0sub T) : T "_law_tests" = some d__law_tests := h _ _ (by rfl)
theorem t__law_deeds {T : Tbl} (h : T0sub T) : T "_law_deeds" = some d__law_deeds := h _ _ (by rfl)
theorem t__law_test {T : Tbl} (h : T0sub T) : T "_law_test" = some d__law_test := h _ _ (by rfl)
theorem t__law_clause {T : Tbl} (h : T0sub T) : T "_law_clause" = some d__law_clause := h _ _ (by rfl)
theorem t__law_known {T : Tbl} (h : T0sub T) : T "_law_known" = some d__law_known := h _ _ (by rfl)
theorem t__law_rule {T : Tbl} (h : T0sub T) : T "_law_rule" = some d__law_rule := h _ _ (by rfl)
theorem t__law_is_clause {T : Tbl} (h : T0sub T) : T "_law_is_clause" = some d__law_is_clause := h _ _ (by rfl)
theorem t__law_is_rule {T : Tbl} (h : T0sub T) : T "_law_is_rule" = some d__law_is_rule := h _ _ (by rfl)
theorem t__law_is_stand {T : Tbl} (h : T0sub T) : T "_law_is_stand" = some d__law_is_stand := h _ _ (by rfl)
theorem t_look_at_stand {T : Tbl} (h : T0sub T) : T "look_at_stand" = some d_look_at_stand := h _ _ (by rfl)
theorem t_flags_of {T : Tbl} (h : T0sub T) : T "flags_of" = some d_flags_of := h _ _ (by rfl)
theorem t_is_like {T : Tbl} (h : T0sub T) : T "is_like" = some d_is_like := h _ _ (by rfl)
theorem t_put_in {T : Tbl} (h : T0sub T) : T "put_in" = some d_put_in := h _ _ (by rfl)
theorem t_left_out {T : Tbl} (h : T0sub T) : T "left_out" = some d_left_out := h _ _ (by rfl)
theorem t_flags_behind {T : Tbl} (h : T0sub T) : T "flags_behind" = some d_flags_behind := h _ _ (by rfl)
theorem t_goes {T : Tbl} (h : T0sub T) : T "goes" = some d_goes := h _ _ (by rfl)
theorem t_fits_history {T : Tbl} (h : T0sub T) : T "fits_history" = some d_fits_history := h _ _ (by rfl)
theorem t_is_history {T : Tbl} (h : T0sub T) : T "is_history" = some d_is_history := h _ _ (by rfl)
theorem t_events_at {T : Tbl} (h : T0sub T) : T "events_at" = some d_events_at := h _ _ (by rfl)
theorem t__law_begun {T : Tbl} (h : T0sub T) : T "_law_begun" = some d__law_begun := h _ _ (by rfl)
theorem t__law_deed {T : Tbl} (h : T0sub T) : T "_law_deed" = some d__law_deed := h _ _ (by rfl)
theorem t__law_act {T : Tbl} (h : T0sub T) : T "_law_act" = some d__law_act := h _ _ (by rfl)
theorem t__law_reached {T : Tbl} (h : T0sub T) : T "_law_reached" = some d__law_reached := h _ _ (by rfl)
theorem t__law_stand {T : Tbl} (h : T0sub T) : T "_law_stand" = some d__law_stand := h _ _ (by rfl)
theorem t__law_history {T : Tbl} (h : T0sub T) : T "_law_history" = some d__law_history := h _ _ (by rfl)
theorem t__law_is_history {T : Tbl} (h : T0sub T) : T "_law_is_history" = some d__law_is_history := h _ _ (by rfl)
theorem t__wall {T : Tbl} (h : T0sub T) : T "_wall" = some d__wall := h _ _ (by rfl)
theorem t_look_at_event {T : Tbl} (h : T0sub T) : T "look_at_event" = some d_look_at_event := h _ _ (by rfl)
theorem t_look_at_history {T : Tbl} (h : T0sub T) : T "look_at_history" = some d_look_at_history := h _ _ (by rfl)
theorem t_look_at_rule {T : Tbl} (h : T0sub T) : T "look_at_rule" = some d_look_at_rule := h _ _ (by rfl)
theorem t_holds {T : Tbl} (h : T0sub T) : T "holds" = some d_holds := h _ _ (by rfl)
theorem t_deed_by {T : Tbl} (h : T0sub T) : T "deed_by" = some d_deed_by := h _ _ (by rfl)
theorem t_new_index {T : Tbl} (h : T0sub T) : T "new_index" = some d_new_index := h _ _ (by rfl)
theorem t_new_main {T : Tbl} (h : T0sub T) : T "new_main" = some d_new_main := h _ _ (by rfl)
theorem t_with_row {T : Tbl} (h : T0sub T) : T "with_row" = some d_with_row := h _ _ (by rfl)
theorem t_by_hand {T : Tbl} (h : T0sub T) : T "by_hand" = some d_by_hand := h _ _ (by rfl)
theorem t_handled {T : Tbl} (h : T0sub T) : T "handled" = some d_handled := h _ _ (by rfl)
theorem t_moved_to {T : Tbl} (h : T0sub T) : T "moved_to" = some d_moved_to := h _ _ (by rfl)
theorem t_changed_rows {T : Tbl} (h : T0sub T) : T "changed_rows" = some d_changed_rows := h _ _ (by rfl)
theorem t_row_of {T : Tbl} (h : T0sub T) : T "row_of" = some d_row_of := h _ _ (by rfl)
theorem t_behind_by {T : Tbl} (h : T0sub T) : T "behind_by" = some d_behind_by := h _ _ (by rfl)
theorem t_reached_by {T : Tbl} (h : T0sub T) : T "reached_by" = some d_reached_by := h _ _ (by rfl)
theorem t_acted_harms {T : Tbl} (h : T0sub T) : T "acted_harms" = some d_acted_harms := h _ _ (by rfl)
theorem t_old_rows {T : Tbl} (h : T0sub T) : T "old_rows" = some d_old_rows := h _ _ (by rfl)
theorem t_stands_of {T : Tbl} (h : T0sub T) : T "stands_of" = some d_stands_of := h _ _ (by rfl)
theorem t_all_harms {T : Tbl} (h : T0sub T) : T "all_harms" = some d_all_harms := h _ _ (by rfl)
theorem t_look_at {T : Tbl} (h : T0sub T) : T "look_at" = some d_look_at := h _ _ (by rfl)
theorem t_after {T : Tbl} (h : T0sub T) : T "after" = some d_after := h _ _ (by rfl)
theorem t_reached {T : Tbl} (h : T0sub T) : T "reached" = some d_reached := h _ _ (by rfl)
theorem t_stand_behind {T : Tbl} (h : T0sub T) : T "stand_behind" = some d_stand_behind := h _ _ (by rfl)
theorem t_harms_in {T : Tbl} (h : T0sub T) : T "harms_in" = some d_harms_in := h _ _ (by rfl)
theorem t_sights_by {T : Tbl} (h : T0sub T) : T "sights_by" = some d_sights_by := h _ _ (by rfl)
theorem t_sights_of {T : Tbl} (h : T0sub T) : T "sights_of" = some d_sights_of := h _ _ (by rfl)
theorem t_is_sight {T : Tbl} (h : T0sub T) : T "is_sight" = some d_is_sight := h _ _ (by rfl)
theorem t_fitting {T : Tbl} (h : T0sub T) : T "fitting" = some d_fitting := h _ _ (by rfl)
theorem t_harms {T : Tbl} (h : T0sub T) : T "harms" = some d_harms := h _ _ (by rfl)
theorem t_fewest_clauses {T : Tbl} (h : T0sub T) : T "fewest_clauses" = some d_fewest_clauses := h _ _ (by rfl)
theorem t_rule_text {T : Tbl} (h : T0sub T) : T "rule_text" = some d_rule_text := h _ _ (by rfl)
theorem t_joined {T : Tbl} (h : T0sub T) : T "joined" = some d_joined := h _ _ (by rfl)
theorem t_look_at_index {T : Tbl} (h : T0sub T) : T "look_at_index" = some d_look_at_index := h _ _ (by rfl)
theorem t_outcome {T : Tbl} (h : T0sub T) : T "outcome" = some d_outcome := h _ _ (by rfl)
theorem t_parting {T : Tbl} (h : T0sub T) : T "parting" = some d_parting := h _ _ (by rfl)
theorem t_needless {T : Tbl} (h : T0sub T) : T "needless" = some d_needless := h _ _ (by rfl)
theorem t_looks_of {T : Tbl} (h : T0sub T) : T "looks_of" = some d_looks_of := h _ _ (by rfl)
theorem t__law_all {T : Tbl} (h : T0sub T) : T "_law_all" = some d__law_all := h _ _ (by rfl)
theorem t__law_any_stand {T : Tbl} (h : T0sub T) : T "_law_any_stand" = some d__law_any_stand := h _ _ (by rfl)
theorem t__law_harm_names {T : Tbl} (h : T0sub T) : T "_law_harm_names" = some d__law_harm_names := h _ _ (by rfl)
theorem t__law_other {T : Tbl} (h : T0sub T) : T "_law_other" = some d__law_other := h _ _ (by rfl)
theorem t__law_end {T : Tbl} (h : T0sub T) : T "_law_end" = some d__law_end := h _ _ (by rfl)
theorem t__law_first {T : Tbl} (h : T0sub T) : T "_law_first" = some d__law_first := h _ _ (by rfl)
theorem t__law_looks {T : Tbl} (h : T0sub T) : T "_law_looks" = some d__law_looks := h _ _ (by rfl)
theorem t__law_sights {T : Tbl} (h : T0sub T) : T "_law_sights" = some d__law_sights := h _ _ (by rfl)
theorem t__law_peeled {T : Tbl} (h : T0sub T) : T "_law_peeled" = some d__law_peeled := h _ _ (by rfl)
theorem t__law_mixed {T : Tbl} (h : T0sub T) : T "_law_mixed" = some d__law_mixed := h _ _ (by rfl)
theorem t__law_drawn {T : Tbl} (h : T0sub T) : T "_law_drawn" = some d__law_drawn := h _ _ (by rfl)
theorem t__law_good {T : Tbl} (h : T0sub T) : T "_law_good" = some d__law_good := h _ _ (by rfl)
end SC

set_option Elab.async false
set_option linter.all false
set_option maxRecDepth 100000
namespace SC.k01
open PySem L2
def d__law_odd_1a_1 : S := (.set [2] (.lst (.cons (.k .non) (.cons (.k (.bl true)) (.cons (.k (.bl false)) (.cons (.k (.int 0)) (.cons (.k (.int 1)) (.cons (.k (.int 2)) (.cons (.neg (.k (.int 1))) (.cons (.bin .pow (.k (.int 10)) (.k (.int 20))) (.cons (.k (.str (Str.ofString ""))) (.cons (.k (.str (Str.ofString "no"))) (.cons (.k (.str (Str.ofString "no act"))) (.cons (.k (.str (Str.ofString "noxact"))) (.cons (.k (.str (Str.ofString "no  act"))) (.cons (.k (.str (Str.ofString "Act"))) (.cons (.k (.str (Str.ofString "act"))) (.cons (.k (.str (Str.ofString "keep"))) .nil))))))))))))))))))
def d__law_odd_1a_2 : S := (.set [2] (.bin .add (.var 2) (.lst (.cons (.k (.str (Str.ofString "reach"))) (.cons (.k (.str (Str.ofString "no keep"))) (.cons (.k (.str (Str.ofString "no no act"))) (.cons (.tup .nil) (.cons (.lst .nil) (.cons (.tup (.cons (.k (.str (Str.ofString "act"))) .nil)) (.cons (.tup (.cons (.tup .nil) (.cons (.k (.str (Str.ofString "keep"))) .nil))) (.cons (.tup (.cons (.k (.bl true)) (.cons (.k (.bl true)) (.cons (.k (.bl true)) .nil)))) (.cons (.tup (.cons (.k (.int 0)) (.cons (.k (.int 0)) (.cons (.k (.int 0)) .nil)))) .nil))))))))))))
def d__law_odd_1a_3 : S := (.ret (.idx (.var 2) (.call "_law_take" (.cons (.var 0) (.cons (.k (.int 25)) .nil)))))
def d__law_odd_1 : S := (.ife (.or (.not (.isi (.var 1) ["tuple"])) (.cmp .eq (.call "_law_take" (.cons (.var 0) (.cons (.k (.int 4)) .nil))) (.k (.int 0)))) (.seq d__law_odd_1a_1
    (.seq d__law_odd_1a_2
    d__law_odd_1a_3)) .skip)
def d__law_odd_2 : S := (.par [(3, 0), (4, 0)] (.cons (.call "_law_take" (.cons (.var 0) (.cons (.bin .add (.bi .len (.cons (.var 1) .nil)) (.k (.int 1))) .nil))) (.cons (.call "_law_take" (.cons (.var 0) (.cons (.k (.int 5)) .nil))) .nil)))
def d__law_odd_3a_1 : S := (.ret (.bi .list (.cons (.var 1) .nil)))
def d__law_odd_3 : S := (.ife (.cmp .eq (.var 4) (.k (.int 0))) d__law_odd_3a_1 .skip)
def d__law_odd_4a_1 : S := (.ret (.bin .add (.bin .add (.slc (.var 1) .nil (.var 3)) (.tup (.cons (.call "_law_odd" (.cons (.var 0) (.cons (.k .non) .nil))) .nil))) (.slc (.var 1) (.var 3) .nil)))
def d__law_odd_4 : S := (.ife (.or (.cmp .eq (.var 4) (.k (.int 1))) (.cmp .eq (.var 3) (.bi .len (.cons (.var 1) .nil)))) d__law_odd_4a_1 .skip)
def d__law_odd_5a_1 : S := (.ret (.bin .add (.bin .add (.slc (.var 1) .nil (.var 3)) (.slc (.var 1) (.var 3) (.bin .add (.var 3) (.k (.int 1))))) (.slc (.var 1) (.var 3) .nil)))
def d__law_odd_5 : S := (.ife (.cmp .eq (.var 4) (.k (.int 2))) d__law_odd_5a_1 .skip)
def d__law_odd_6a_1 : S := (.ret (.bin .add (.slc (.var 1) .nil (.var 3)) (.slc (.var 1) (.bin .add (.var 3) (.k (.int 1))) .nil)))
def d__law_odd_6 : S := (.ife (.cmp .eq (.var 4) (.k (.int 3))) d__law_odd_6a_1 .skip)
def d__law_odd_7 : S := (.ret (.bin .add (.bin .add (.slc (.var 1) .nil (.var 3)) (.tup (.cons (.call "_law_odd" (.cons (.var 0) (.cons (.idx (.var 1) (.var 3)) .nil))) .nil))) (.slc (.var 1) (.bin .add (.var 3) (.k (.int 1))) .nil)))
def d__law_odd : FnDef := ⟨2, 5,
    (.seq d__law_odd_1
    (.seq d__law_odd_2
    (.seq d__law_odd_3
    (.seq d__law_odd_4
    (.seq d__law_odd_5
    (.seq d__law_odd_6
    d__law_odd_7))))))⟩
def d_law_1_1 : S := (.set [2, 3] (.tup (.cons (.call "_law_rule" (.cons (.var 1) (.cons (.k (.int 8)) .nil))) (.cons (.bin .add (.k (.int 1)) (.call "_law_take" (.cons (.var 1) (.cons (.k (.int 3)) .nil)))) .nil))))
def d_law_1_2 : S := (.own 4 1 (.lst (.cons (.var 2) (.cons (.bin .add (.var 2) (.bin .mul (.tup (.cons (.tup (.cons (.tup (.cons (.k (.str (Str.ofString "only"))) .nil)) (.cons (.k (.str (Str.ofString "next"))) .nil))) .nil)) (.bin .sub (.k (.int 9)) (.bi .len (.cons (.var 2) .nil))))) (.cons (.bin .add (.var 2) (.tup (.cons (.tup (.cons (.bin .mul (.tup (.cons (.k (.str (Str.ofString "only"))) .nil)) (.k (.int 4))) (.cons (.k (.str (Str.ofString "next"))) .nil))) .nil))) (.cons (.glob "USUAL") .nil))))))
def d_law_1_3_1 : S := (.app 4 (.call "_law_odd" (.cons (.var 1) (.cons (.var 2) .nil))))
def d_law_1_3 : S := (.loop [5] .range (.cons (.k (.int 20)) .nil) d_law_1_3_1)
def d_law_1_4a_1 : S := (.ret (.k (.bl false)))
def d_law_1_4 : S := (.frz 4 (.ife (.cmp .ne (.comp [8] [8] .plain (.cons (.var 4) .nil) (.not (.call "_law_same" (.cons (.call "is_rule" (.cons (.var 8) .nil)) (.cons (.call "_law_is_rule" (.cons (.var 8) .nil)) .nil)))) (.k (.int 1))) (.lst .nil)) d_law_1_4a_1 .skip))
def d_law_1_5 : S := (.set [6] (.bi .tuple (.cons (.comp [9] [9] .range (.cons (.call "_law_take" (.cons (.var 1) (.cons (.bin .add (.var 3) (.k (.int 1))) .nil))) .nil) .nil (.bi .tuple (.cons (.comp [10] [10] .range (.cons (.k (.int 3)) .nil) .nil (.cmp .eq (.call "_law_take" (.cons (.var 1) (.cons (.k (.int 2)) .nil))) (.k (.int 0)))) .nil))) .nil)))
def d_law_1_6 : S := (.set [7] (.tup (.cons (.var 6) (.cons (.bin .sub (.call "_law_take" (.cons (.var 1) (.cons (.bin .add (.bi .len (.cons (.var 6) .nil)) (.k (.int 1))) .nil))) (.k (.int 1))) .nil))))
def d_law_1_7 : S := (.own 4 1 (.lst (.cons (.var 7) (.cons (.tup (.cons (.bin .add (.var 6) (.tup (.cons (.tup (.cons (.k (.bl true)) (.cons (.k (.bl false)) (.cons (.k (.bl false)) .nil)))) .nil))) (.cons (.neg (.k (.int 1))) .nil))) (.cons (.tup (.cons (.var 6) (.cons (.bi .len (.cons (.var 6) .nil)) .nil))) (.cons (.tup (.cons (.var 6) (.cons (.neg (.k (.int 2))) .nil))) .nil))))))
def d_law_1_8_1 : S := (.app 4 (.call "_law_odd" (.cons (.var 1) (.cons (.var 7) .nil))))
def d_law_1_8 : S := (.loop [5] .range (.cons (.k (.int 15)) .nil) d_law_1_8_1)
def d_law_1_9a_1 : S := (.ret (.k (.bl false)))
def d_law_1_9 : S := (.frz 4 (.ife (.cmp .ne (.comp [8] [8] .plain (.cons (.var 4) .nil) (.not (.call "_law_same" (.cons (.call "is_stand" (.cons (.var 3) (.cons (.var 8) .nil))) (.cons (.call "_law_is_stand" (.cons (.var 3) (.cons (.var 8) .nil))) .nil)))) (.k (.int 1))) (.lst .nil)) d_law_1_9a_1 .skip))
def d_law_1 : S := (.loop [1] .plain (.cons (.call "_law_bags" (.cons (.var 0) (.cons (.k (.int 8)) .nil))) .nil) (.seq d_law_1_1
    (.seq d_law_1_2
    (.seq d_law_1_3
    (.seq d_law_1_4
    (.seq d_law_1_5
    (.seq d_law_1_6
    (.seq d_law_1_7
    (.seq d_law_1_8
    d_law_1_9)))))))))
def d_law_2 : S := (.ret (.k (.bl true)))
def d_law : FnDef := ⟨1, 11,
    (.seq d_law_1
    d_law_2)⟩
def Tk : Tbl
  | "_law_odd" => some d__law_odd
  | "law" => some d_law
  | _ => none
def T : Tbl := fun f => match T0 f with | some d => some d | none => Tk f
theorem t0 : T0sub T := fun f d e => by unfold T; rw [e]
theorem t__law_odd : T "_law_odd" = some d__law_odd := by rfl
theorem t_law : T "law" = some d_law := by rfl
end SC.k01

set_option Elab.async false
set_option linter.all false
set_option maxRecDepth 100000
/-! P0: what the shared defs compute: the tools, the takes. -/
namespace SC.P
open PySem L2
theorem call_eq {T : Tbl} {f : String} {fd : FnDef} (h : T f = some fd) {n : Nat} {ds : List D} {μ : Store} (hl : ds.length = fd.np) : callN T (n + 1) f ds μ = finish (evalS (callN T n) fd.body (startE fd.ns ds) μ) := by
  rw [callN, h]
  simp [hl]
theorem rb_ok {α β : Type} {a : α} {f : α → Res β} : (Res.ok a).bind f = f a := rfl
theorem rs_nx {δ : SC.Env} {μ : Store} {f : SC.Env → Store → RS} : RS.bind (.ok (.nx, δ, μ)) f = f δ μ := rfl
theorem rs_rt {δ : SC.Env} {μ : Store} {d : D} {f : SC.Env → Store → RS} : RS.bind (.ok (.rt d, δ, μ)) f = .ok (.rt d, δ, μ) := rfl
section
variable {Φ : Fn} {δ : SC.Env} {μ : Store}
theorem e_var {i : Nat} : evalE Φ (.var i) δ μ = (match δ[i]? with | some (.val d) => .ok (d, μ) | _ => .bad) := by rw [evalE] <;> rfl
theorem e_k {d : D} : evalE Φ (.k d) δ μ = if flat d then .ok (d, μ) else .bad := by rw [evalE] <;> rfl
theorem e_glob {x : String} : evalE Φ (.glob x) δ μ = rD (globD x) μ := by rw [evalE] <;> rfl
theorem e_nil : evalE Φ .nil δ μ = .ok (.tup [], μ) := by rw [evalE] <;> rfl
theorem e_cons {a r : E} : evalE Φ (.cons a r) δ μ = (evalE Φ a δ μ).bind fun p => (evalE Φ r δ p.2).bind fun q => .ok (.tup (p.1 :: packOf q.1), q.2) := by rw [evalE] <;> rfl
theorem e_tup {es : E} : evalE Φ (.tup es) δ μ = (evalE Φ es δ μ).bind fun p => .ok (.tup (packOf p.1), p.2) := by rw [evalE] <;> rfl
theorem e_lst {es : E} : evalE Φ (.lst es) δ μ = (evalE Φ es δ μ).bind fun p => .ok (.lst (packOf p.1), p.2) := by rw [evalE] <;> rfl
theorem e_call {f : String} {es : E} : evalE Φ (.call f es) δ μ = (evalE Φ es δ μ).bind fun p => Φ f (packOf p.1) p.2 := by rw [evalE] <;> rfl
theorem e_bin {op : BOp} {a b : E} : evalE Φ (.bin op a b) δ μ = (evalE Φ a δ μ).bind fun p => (evalE Φ b δ p.2).bind fun q => rD (pBin op q.2 p.1 q.1) q.2 := by rw [evalE] <;> rfl
theorem e_cmp {op : COp} {a b : E} : evalE Φ (.cmp op a b) δ μ = (evalE Φ a δ μ).bind fun p => (evalE Φ b δ p.2).bind fun q => rB (pCmp op q.2 p.1 q.1) q.2 := by rw [evalE] <;> rfl
theorem e_chain {op op' : COp} {a b c : E} : evalE Φ (.chain op op' a b c) δ μ = (evalE Φ a δ μ).bind fun p => (evalE Φ b δ p.2).bind fun q => (match pCmp op q.2 p.1 q.1 with
    | some true => (evalE Φ c δ q.2).bind fun r => rB (pCmp op' r.2 q.1 r.1) r.2
    | some false => .ok (.bl false, q.2)
    | none => .bad) := by rw [evalE] <;> rfl
theorem e_and {a b : E} : evalE Φ (.and a b) δ μ = (evalE Φ a δ μ).bind fun p => (rT p.1).bind fun c => if c then evalE Φ b δ p.2 else .ok (.bl false, p.2) := by rw [evalE] <;> rfl
theorem e_or {a b : E} : evalE Φ (.or a b) δ μ = (evalE Φ a δ μ).bind fun p => (rT p.1).bind fun c => if c then .ok (.bl true, p.2) else evalE Φ b δ p.2 := by rw [evalE] <;> rfl
theorem e_not {a : E} : evalE Φ (.not a) δ μ = (evalE Φ a δ μ).bind fun p => (rT p.1).bind fun c => .ok (.bl (!c), p.2) := by rw [evalE] <;> rfl
theorem e_ite {c a b : E} : evalE Φ (.ite c a b) δ μ = (evalE Φ c δ μ).bind fun p => (rT p.1).bind fun t => if t then evalE Φ a δ p.2 else evalE Φ b δ p.2 := by rw [evalE] <;> rfl
theorem e_neg {a : E} : evalE Φ (.neg a) δ μ = (evalE Φ a δ μ).bind fun p => (rI p.1).bind fun i => .ok (.int (-i), p.2) := by rw [evalE] <;> rfl
theorem e_idx {a i : E} : evalE Φ (.idx a i) δ μ = (evalE Φ a δ μ).bind fun p => (evalE Φ i δ p.2).bind fun q => rD (pIdx q.2 p.1 q.1) q.2 := by rw [evalE] <;> rfl
theorem e_slc {a lo hi : E} : evalE Φ (.slc a lo hi) δ μ = (evalE Φ a δ μ).bind fun p =>
    (partE lo (evalE Φ lo δ p.2) p.2).bind fun l => (partE hi (evalE Φ hi δ l.2) l.2).bind fun h => rD (pSlc h.2 p.1 l.1 h.1) h.2 := by rw [evalE] <;> rfl
theorem e_rev {a : E} : evalE Φ (.rev a) δ μ = (evalE Φ a δ μ).bind fun p => rD (pRev p.2 p.1) p.2 := by rw [evalE] <;> rfl
theorem e_bi {f : BF} {es : E} : evalE Φ (.bi f es) δ μ = (evalE Φ es δ μ).bind fun p => rD (pBf f p.2 (packOf p.1)) p.2 := by rw [evalE] <;> rfl
theorem e_isi {a : E} {ts : List String} : evalE Φ (.isi a ts) δ μ = (evalE Φ a δ μ).bind fun p => rB (pIsi p.1 ts) p.2 := by rw [evalE] <;> rfl
theorem e_alloc {a : E} : evalE Φ (.alloc a) δ μ = (evalE Φ a δ μ).bind fun p => (match p.1 with | .lst xs => .ok (.ref p.2.length, p.2 ++ [xs]) | _ => .bad) := by rw [evalE] <;> rfl
theorem e_olen {i : Nat} : evalE Φ (.olen i) δ μ = (match δ[i]? with | some (.own xs) => .ok (.int xs.length, μ) | _ => .bad) := by rw [evalE] <;> rfl
theorem e_oidx {i : Nat} {e : E} : evalE Φ (.oidx i e) δ μ = (match δ[i]? with | some (.own xs) => (evalE Φ e δ μ).bind fun p => (rI p.1).bind fun j => rD (atI xs j) p.2 | _ => .bad) := by rw [evalE] <;> rfl
theorem e_oin {neg : Bool} {e : E} {i : Nat} : evalE Φ (.oin neg e i) δ μ = (match δ[i]? with | some (.own xs) => (evalE Φ e δ μ).bind fun p => rB ((pIn p.2 p.1 (.lst xs)).map fun b => if neg then !b else b) p.2 | _ => .bad) := by rw [evalE] <;> rfl
theorem s_skip : evalS Φ .skip δ μ = .ok (.nx, δ, μ) := by rw [evalS] <;> rfl
theorem s_seq {a b : S} : evalS Φ (.seq a b) δ μ = (evalS Φ a δ μ).bind fun δ1 μ1 => evalS Φ b δ1 μ1 := by rw [evalS] <;> rfl
theorem s_expr {e : E} : evalS Φ (.expr e) δ μ = (evalE Φ e δ μ).bind fun p => .ok (.nx, δ, p.2) := by rw [evalS] <;> rfl
theorem s_set {tg : List Nat} {e : E} : evalS Φ (.set tg e) δ μ = (evalE Φ e δ μ).bind fun p => (match bindT tg p.1 δ with | some δ1 => .ok (.nx, δ1, p.2) | none => .bad) := by rw [evalS] <;> rfl
theorem s_par {tg : List (Nat × Nat)} {es : E} : evalS Φ (.par tg es) δ μ = (evalE Φ es δ μ).bind fun p => (match bindOwn tg (packOf p.1) δ with | some δ1 => .ok (.nx, δ1, p.2) | none => .bad) := by rw [evalS] <;> rfl
theorem s_own {i kd : Nat} {e : E} : evalS Φ (.own i kd e) δ μ = (evalE Φ e δ μ).bind fun p => (match ownOf kd p.1 with | some s => .ok (.nx, δ.set i s, p.2) | none => .bad) := by rw [evalS] <;> rfl
theorem s_app {i : Nat} {e : E} : evalS Φ (.app i e) δ μ = (match δ[i]? with
    | some (.own xs) => (evalE Φ e δ μ).bind fun p => if xs.length < sizeLine then .ok (.nx, δ.set i (.own (xs ++ [p.1])), p.2) else .bad
    | _ => .bad) := by rw [evalS] <;> rfl
theorem s_setR {a ie e : E} : evalS Φ (.setR a ie e) δ μ = (evalE Φ e δ μ).bind fun p => (evalE Φ a δ p.2).bind fun o => (evalE Φ ie δ o.2).bind fun q => (match o.1 with
    | .ref k => (rI q.1).bind fun j => (match q.2[k]? with
      | some xs => (match ixN xs.length j with
        | some m => .ok (.nx, δ, q.2.set k (xs.set m p.1))
        | none => .bad)
      | none => .bad)
    | _ => .bad) := by rw [evalS] <;> rfl
theorem s_ife {c : E} {a b : S} : evalS Φ (.ife c a b) δ μ = (evT (evalE Φ c δ μ)).bind fun t => if t.1 then evalS Φ a δ t.2 else evalS Φ b δ t.2 := by rw [evalS] <;> rfl
theorem s_ret {e : E} : evalS Φ (.ret e) δ μ = (evalE Φ e δ μ).bind fun p => .ok (.rt p.1, δ, p.2) := by rw [evalS] <;> rfl
theorem s_frz {i : Nat} {a : S} : evalS Φ (.frz i a) δ μ = (match δ[i]? with
    | some (.own xs) => evalS Φ a (δ.set i (.val (.lst xs))) μ
    | some (.ownd _ ks vs) => evalS Φ a (δ.set i (.val (.dct ks vs))) μ
    | _ => .bad) := by rw [evalS] <;> rfl
theorem s_raise {c : String} : evalS Φ (.raise c) δ μ = .exc c none μ := by rw [evalS] <;> rfl
/-- a turn of a for -/
def lf (Φ : Fn) (tg : List Nat) (body : S) (x : D) (δ1 : SC.Env) (μ1 : Store) : RS := match bindT tg x δ1 with
  | some δ2 => evalS Φ body δ2 μ1
  | none => .bad
theorem s_loop {tg : List Nat} {kd : IK} {src : E} {body : S} {d : D} {μ0 : Store} {g : Gd} {xs : List D} (h1 : evalE Φ src δ μ = .ok (d, μ0)) (h2 : pSrc kd μ0 (packOf d) = some (g, xs)) : evalS Φ (.loop tg kd src body) δ μ = forLoop (lf Φ tg body) g xs δ μ0 := by
  rw [evalS, h1]
  simp only [rb_ok, h2]
  rfl
end
/-- a bag that may still be asked n times -/
def Bag (n : Nat) (r : Nat) (μ : Store) : Prop := ∃ a b c : Int, μ[r]? = some [.int a, .int b, .int c] ∧ c.natAbs + n < 2 ^ 63
/-- nothing but that bag is otherwise -/
structure Fr (r : Nat) (μ μ' : Store) : Prop where
  len : μ'.length = μ.length
  at_ : ∀ j, j ≠ r → μ'[j]? = μ[j]?
theorem Fr.refl {r : Nat} {μ : Store} : Fr r μ μ := ⟨rfl, fun _ _ => rfl⟩
theorem Fr.trans {r : Nat} {μ μ1 μ2 : Store} (a : Fr r μ μ1) (b : Fr r μ1 μ2) : Fr r μ μ2 := ⟨b.len.trans a.len, fun j h => (b.at_ j h).trans (a.at_ j h)⟩
theorem Fr.set {r : Nat} {μ : Store} {xs : List D} : Fr r μ (μ.set r xs) := ⟨by simp, fun j h => List.getElem?_set_ne (Ne.symm h)⟩
theorem Bag.mono {n m r : Nat} {μ : Store} (h : Bag n r μ) (hm : m ≤ n) : Bag m r μ := let ⟨a, b, c, e, hc⟩ := h; ⟨a, b, c, e, by omega⟩
theorem at0 {x y z : D} : atI [x, y, z] 0 = some x := rfl
theorem at1 {x y z : D} : atI [x, y, z] 1 = some y := rfl
theorem at2 {x y z : D} : atI [x, y, z] 2 = some z := rfl
theorem pIdx_ref {μ : Store} {r : Nat} {xs : List D} {j : Int} (e : μ[r]? = some xs) : pIdx μ (.ref r) (.int j) = atI xs j := by
  simp [pIdx, seqOf, e]
theorem mul_ok {i j : Int} (h : mulOk i j = true) : pMul (.int i) (.int j) = some (.int (i * j)) := by simp [pMul, h]
theorem add_ii {μ : Store} {i j : Int} : pAdd μ (.int i) (.int j) = some (.int (i + j)) := rfl
theorem mulOk_l {i j : Int} (h1 : -(2 ^ 64) < i) (h2 : i < 2 ^ 64) : mulOk i j = true := by simp [mulOk]; omega
theorem take {T : Tbl} (h : T0sub T) {k n r : Nat} {m : Int} {μ : Store} (b : Bag (n + 1) r μ) (hm : 0 < m) (hm2 : m < 1073741824) :
    ∃ v μ', callN T (k + 1) "_law_take" [.ref r, .int m] μ = .ok (.int v, μ') ∧ 0 ≤ v ∧ v < m ∧ Bag n r μ' ∧ Fr r μ μ' := by
  obtain ⟨a, b, c, e, hc⟩ := b
  have hr : r < μ.length := (List.getElem?_eq_some_iff.mp e).1
  rw [call_eq (t__law_take h) rfl]
  unfold d__law_take
  have s0 : ∀ x : D, (μ.set r [x, .int b, .int c])[r]? = some [x, .int b, .int c] := fun x => List.getElem?_set_self hr
  have s2 : ∀ x : D, (μ.set r [.int a, .int b, x])[r]? = some [.int a, .int b, x] := fun x => List.getElem?_set_self hr
  have hx0 : ixN 3 0 = some 0 := rfl
  have hx2 : ixN 3 2 = some 2 := rfl
  by_cases ha : 0 < a
  · have hd : (0 < m ∧ m < 1073741824) := ⟨hm, hm2⟩
    refine ⟨a % m, μ.set r [.int (a / m), .int b, .int c], ?_, Int.emod_nonneg _ (by omega), Int.emod_lt_of_pos _ hm, ⟨a / m, b, c, s0 _, by omega⟩, Fr.set⟩
    simp (config := {decide := false}) only [e_var, e_k, e_glob, e_nil, e_cons, e_tup, e_lst, e_call, e_bin, e_cmp, e_chain, e_and, e_or, e_not, e_ite, e_neg, e_idx, e_slc, e_rev, e_bi, e_isi, e_alloc, e_olen, e_oidx, e_oin, s_skip, s_seq, s_expr, s_set, s_par, s_own, s_app, s_setR, s_ife, s_ret, s_frz, s_raise, rb_ok, rs_nx, rs_rt, startE, finish, List.map_cons, List.map_nil, List.cons_append, List.nil_append, List.length_cons, List.length_nil, List.replicate, List.getElem?_cons_zero, List.getElem?_cons_succ, List.set_cons_zero, List.set_cons_succ, packOf, partE, condE, evT, rT, rI, rB, rD, flat, if_true, if_false, ↓reduceIte, Bool.false_eq_true, Nat.reduceAdd, Nat.reduceSub, bindT, bindAll, wipeE, bindOwn, ownOf, pBin, pCmp, Bool.not_true, Bool.not_false, Option.map_some, pIdx_ref e, at0, ha, decide_true, hm, hd, e, hx0, and_self]
  · have h5 : (0 : Int) < 2305843009213693951 := by decide
    have h13 : (0 : Int) < 13 ∧ (13 : Int) < 1073741824 := by decide
    have q0 : ∀ z : Int, 0 ≤ z % 2305843009213693951 ∧ z % 2305843009213693951 < 2305843009213693951 := fun z => ⟨Int.emod_nonneg _ (by omega), Int.emod_lt_of_pos _ (by omega)⟩
    have e2 := s2 (.int (c + 1))
    have hp2 : (0 : Int) ≤ 2 ∧ (2 : Int) ≤ 1000000 ∧ (c + 1).natAbs < 2 ^ 64 := ⟨by omega, by omega, by omega⟩
    generalize hx1 : (b + 1000003 * (c + 1)) % 2305843009213693951 = x1
    have b1 := q0 (b + 1000003 * (c + 1)); rw [hx1] at b1
    generalize hx2' : (x1 * x1 + 7919 * (c + 1) ^ (2 : Int).toNat + 5) % 2305843009213693951 = x2
    have b2 := q0 (x1 * x1 + 7919 * (c + 1) ^ (2 : Int).toNat + 5); rw [hx2'] at b2
    have hp3 : (0 : Int) ≤ 3 ∧ (3 : Int) ≤ 1000000 ∧ x2.natAbs < 2 ^ 64 := ⟨by omega, by omega, by omega⟩
    refine ⟨x2 ^ (3 : Int).toNat % 2305843009213693951 / 13 % m, μ.set r [.int a, .int b, .int (c + 1)], ?_, Int.emod_nonneg _ (by omega), Int.emod_lt_of_pos _ hm, ⟨a, b, c + 1, s2 _, by omega⟩, Fr.set⟩
    simp (config := {decide := false}) only [e_var, e_k, e_glob, e_nil, e_cons, e_tup, e_lst, e_call, e_bin, e_cmp, e_chain, e_and, e_or, e_not, e_ite, e_neg, e_idx, e_slc, e_rev, e_bi, e_isi, e_alloc, e_olen, e_oidx, e_oin, s_skip, s_seq, s_expr, s_set, s_par, s_own, s_app, s_setR, s_ife, s_ret, s_frz, s_raise, rb_ok, rs_nx, rs_rt, startE, finish, List.map_cons, List.map_nil, List.cons_append, List.nil_append, List.length_cons, List.length_nil, List.replicate, List.getElem?_cons_zero, List.getElem?_cons_succ, List.set_cons_zero, List.set_cons_succ, packOf, partE, condE, evT, rT, rI, rB, rD, flat, if_true, if_false, ↓reduceIte, Bool.false_eq_true, Nat.reduceAdd, Nat.reduceSub, bindT, bindAll, wipeE, bindOwn, ownOf, pBin, pCmp, Bool.not_true, Bool.not_false, Option.map_some, pIdx_ref e, pIdx_ref e2, at0, at1, at2, ha, decide_false, hm, e, hx2, and_self, h5, h13, add_ii, mul_ok (mulOk_l (i := 1000003) (j := c + 1) (by decide) (by decide)), mul_ok (mulOk_l (i := 7919) (j := (c + 1) ^ (2 : Int).toNat) (by decide) (by decide)), hx1, mul_ok (mulOk_l (i := x1) (j := x1) (by omega) (by omega)), hp2, hx2', hp3]
end SC.P

set_option Elab.async false
set_option linter.all false
set_option maxRecDepth 100000
/-! P1: bags, rules drawn. -/
namespace SC.P
open PySem L2
theorem comp_all {f : D → Store → Res (Option D × Store)} {g : Gd} (P : Nat → Store → Prop) (R : Nat → D → Prop) (hg : ∀ i μ, P i μ → gOk g μ = true) : ∀ (xs : List D) (k : Nat) (μ : Store), P k μ →
    (∀ i x μ, xs[i]? = some x → P (k + i) μ → ∃ d μ', f x μ = .ok (some d, μ') ∧ P (k + i + 1) μ' ∧ R (k + i) d) →
    ∃ ys μ', compLoop f g xs μ = .ok (ys, μ') ∧ P (k + xs.length) μ' ∧ ys.length = xs.length ∧ ∀ (i : Nat) (d : D), ys[i]? = some d → R (k + i) d
  | [], k, μ, p, _ => ⟨[], μ, by unfold compLoop; rw [hg k μ p]; rfl, p, rfl, fun i d e => by simp at e⟩
  | x :: xs, k, μ, p, st => by
    obtain ⟨d, μ1, e1, p1, r1⟩ := st 0 x μ rfl p
    obtain ⟨ys, μ2, e2, p2, l2, r2⟩ := comp_all P R hg xs (k + 1) μ1 p1 (fun i y μ h p => by
      have := st (i + 1) y μ h (by rw [show k + (i + 1) = k + 1 + i by omega]; exact p)
      rw [show k + (i + 1) = k + 1 + i by omega] at this
      exact this)
    refine ⟨d :: ys, μ2, ?_, by rw [List.length_cons, show k + (xs.length + 1) = k + 1 + xs.length by omega]; exact p2, by simp [l2], fun i d' e => ?_⟩
    · unfold compLoop
      rw [hg k μ p, e1]
      simp [e2]
    · cases i with
      | zero => simp at e; subst e; exact r1
      | succ i => rw [show k + (i + 1) = k + 1 + i by omega]; exact r2 i d' (by simpa using e)
theorem comp_pure {f : D → Store → Res (Option D × Store)} {g : Gd} {μ : Store} (o : D → Option D) (hg : gOk g μ = true) : ∀ (xs : List D), (∀ x ∈ xs, f x μ = .ok (o x, μ)) → compLoop f g xs μ = .ok (xs.filterMap o, μ)
  | [], _ => by unfold compLoop; rw [hg]; rfl
  | x :: xs, h => by
    unfold compLoop
    rw [hg, h x List.mem_cons_self]
    simp only [if_true, comp_pure o hg xs fun y hy => h y (List.mem_cons_of_mem _ hy)]
    cases e : o x <;> simp [e]
theorem gok0 {μ : Store} : gOk [] μ = true := rfl
theorem atI_pick {xs : List D} {v : Int} (h0 : 0 ≤ v) (h1 : v < xs.length) : ∃ x ∈ xs, atI xs v = some x := by
  have hv : v.toNat < xs.length := by omega
  refine ⟨xs[v.toNat], List.getElem_mem hv, ?_⟩
  unfold atI ixN
  rw [if_pos h0, if_pos h1]
  simp [hv]
theorem pIdx_lst {μ : Store} {xs : List D} {j : Int} : pIdx μ (.lst xs) (.int j) = atI xs j := by simp [pIdx, seqOf]
theorem pIdx_tup {μ : Store} {xs : List D} {j : Int} : pIdx μ (.tup xs) (.int j) = atI xs j := by simp [pIdx, seqOf]
def tf (Φ : Fn) (own tg : List Nat) (cnd elt : E) (δ : SC.Env) (x : D) (μ1 : Store) : Res (Option D × Store) := match bindT tg x (wipeE δ own) with
  | some δ1 => (condE cnd (evalE Φ cnd δ1 μ1) μ1).bind fun t => if t.1 then (evalE Φ elt δ1 t.2).bind fun q => .ok (some q.1, q.2) else .ok (none, t.2)
  | none => .bad
theorem ev_comp {Φ : Fn} {own tg : List Nat} {kd : IK} {src cnd elt : E} {δ : SC.Env} {μ μ0 μ' : Store} {d : D} {g : Gd} {xs ys : List D} (h1 : evalE Φ src δ μ = .ok (d, μ0)) (h2 : pSrc kd μ0 (packOf d) = some (g, xs)) (h3 : compLoop (tf Φ own tg cnd elt δ) g xs μ0 = .ok (ys, μ')) :
    evalE Φ (.comp own tg kd src cnd elt) δ μ = .ok (.lst ys, μ') := by
  unfold evalE
  rw [h1]
  simp only [rb_ok, h2]
  show ((compLoop (tf Φ own tg cnd elt δ) g xs μ0).bind fun q => Res.ok (D.lst q.1, q.2)).calm = _
  rw [h3]
  rfl
theorem ints_all {ns : List Int} {x : D} (hx : x ∈ ns.map D.int) : ∃ n, x = .int n := by
  obtain ⟨n, _, e⟩ := List.mem_map.mp hx
  exact ⟨n, e.symm⟩
theorem enum_get (xs : List D) : ∀ (k i : Nat), (enumFrom k xs)[i]? = (xs[i]?).map fun x => .tup [.int ((k + i : Nat) : Int), x] := by
  induction xs with
  | nil => intro k i; simp [enumFrom]
  | cons x xs ih =>
    intro k i
    cases i with
    | zero => simp [enumFrom]
    | succ i =>
      simp only [enumFrom, List.getElem?_cons_succ, ih]
      rw [show k + 1 + i = k + (i + 1) by omega]
theorem enum_len (xs : List D) : ∀ k : Nat, (enumFrom k xs).length = xs.length := by
  induction xs with
  | nil => intro k; rfl
  | cons x xs ih => intro k; simp [enumFrom, ih]
section
variable {T : Tbl} (h : T0sub T)
include h
theorem well {k : Nat} {c t : Int} {μ : Store} : ∃ a b : Int, callN T (k + 1) "_law_well" [.int c, .int t] μ = .ok (.ref μ.length, μ ++ [[.int a, .int b, .int t]]) := by
  rw [call_eq (t__law_well h) rfl]
  unfold d__law_well
  have h5 : (0 : Int) < 2305843009213693951 := by decide
  have hp : (0 : Int) ≤ 18 ∧ (18 : Int) ≤ 1000000 ∧ (10 : Int).natAbs < 2 ^ 64 := by decide
  by_cases hc : (10 : Int) ^ (18 : Int).toNat ≤ c
  · exact ⟨c - 10 ^ (18 : Int).toNat, c % 2305843009213693951, by simp (config := {decide := false}) only [e_var, e_k, e_glob, e_nil, e_cons, e_tup, e_lst, e_call, e_bin, e_cmp, e_chain, e_and, e_or, e_not, e_ite, e_neg, e_idx, e_slc, e_rev, e_bi, e_isi, e_alloc, e_olen, e_oidx, e_oin, s_skip, s_seq, s_expr, s_set, s_par, s_own, s_app, s_setR, s_ife, s_ret, s_frz, s_raise, rb_ok, rs_nx, rs_rt, startE, finish, List.map_cons, List.map_nil, List.cons_append, List.nil_append, List.length_cons, List.length_nil, List.replicate, List.getElem?_cons_zero, List.getElem?_cons_succ, List.set_cons_zero, List.set_cons_succ, packOf, partE, condE, evT, rT, rI, rB, rD, flat, if_true, if_false, ↓reduceIte, Bool.false_eq_true, Nat.reduceAdd, Nat.reduceSub, bindT, bindAll, wipeE, bindOwn, ownOf, pBin, pCmp, Bool.not_true, Bool.not_false, Option.map_some, hp, and_self, h5, hc, decide_true]⟩
  · exact ⟨0, c % 2305843009213693951, by simp (config := {decide := false}) only [e_var, e_k, e_glob, e_nil, e_cons, e_tup, e_lst, e_call, e_bin, e_cmp, e_chain, e_and, e_or, e_not, e_ite, e_neg, e_idx, e_slc, e_rev, e_bi, e_isi, e_alloc, e_olen, e_oidx, e_oin, s_skip, s_seq, s_expr, s_set, s_par, s_own, s_app, s_setR, s_ife, s_ret, s_frz, s_raise, rb_ok, rs_nx, rs_rt, startE, finish, List.map_cons, List.map_nil, List.cons_append, List.nil_append, List.length_cons, List.length_nil, List.replicate, List.getElem?_cons_zero, List.getElem?_cons_succ, List.set_cons_zero, List.set_cons_succ, packOf, partE, condE, evT, rT, rI, rB, rD, flat, if_true, if_false, ↓reduceIte, Bool.false_eq_true, Nat.reduceAdd, Nat.reduceSub, bindT, bindAll, wipeE, bindOwn, ownOf, pBin, pCmp, Bool.not_true, Bool.not_false, Option.map_some, hp, and_self, h5, hc, decide_false]⟩
theorem bags {k : Nat} {ns : List Int} {m : Int} (hm : 0 ≤ m) (hl : ns.length ≤ 63) : ∃ (n : Nat) (μ' : Store), callN T (k + 2) "_law_bags" [.scr (ns.map D.int), .int m] [] = .ok (.lst ((List.range n).map D.ref), μ') ∧ μ'.length = n ∧ n ≤ 64 ∧ ∀ r, r < n → Bag (2 ^ 62) r μ' := by
  rw [call_eq (t__law_bags h) rfl]
  unfold d__law_bags
  have hs : 1000 ≤ sizeLine := by decide
  have hcut : ∃ zs : List Int, cut (ns.map D.int) none (some m) ++ [D.int 0] = zs.map D.int ∧ zs.length ≤ 64 ∧ (cut (ns.map D.int) none (some m)).length + 1 ≤ sizeLine := by
    have e : cut (ns.map D.int) none (some m) = (cut ns none (some m)).map D.int := by unfold cut; simp
    have l : (cut ns none (some m)).length ≤ ns.length := by unfold cut; simp; omega
    refine ⟨cut ns none (some m) ++ [0], by rw [e]; simp, by simp; omega, ?_⟩
    rw [e, List.length_map]
    omega
  obtain ⟨zs, e1, l1, l2⟩ := hcut
  have hadd : pAdd ([] : Store) (.lst (cut (ns.map D.int) none (some m))) (.lst [.int 0]) = some (.lst (zs.map D.int)) := by
    simp only [pAdd, lstOf, List.length_cons, List.length_nil]
    rw [if_pos (by omega), e1]
  have hslc : pSlc ([] : Store) (.scr (ns.map D.int)) none (some m) = some (.lst (cut (ns.map D.int) none (some m))) := rfl
  obtain ⟨ys, μ', e, ⟨p1, p2⟩, l, r⟩ := comp_all (g := []) (f := tf (callN T (k + 1)) [2, 3] [2, 3] .nil (.call "_law_well" (.cons (.var 3) (.cons (.bin .mul (.k (.int 977)) (.var 2)) .nil))) [.val (.scr (ns.map D.int)), .val (.int m), .no, .no])
    (fun i μ => μ.length = i ∧ ∀ r, r < i → Bag (2 ^ 62) r μ) (fun i d => d = .ref i) (fun _ _ _ => rfl) (enumFrom 0 (zs.map D.int)) 0 [] ⟨rfl, fun r hr => absurd hr (Nat.not_lt_zero _)⟩ (fun i x μ hx ⟨p1, p2⟩ => by
      rw [enum_get] at hx
      obtain ⟨c', hc', rfl⟩ := Option.map_eq_some_iff.mp hx
      obtain ⟨c, rfl⟩ := ints_all (List.mem_of_getElem? hc')
      have hi : i < 64 := by
        have := (List.getElem?_eq_some_iff.mp hc').1
        rw [List.length_map] at this
        omega
      obtain ⟨a, b, e⟩ := well h (k := k) (c := c) (t := 977 * ((0 + i : Nat) : Int)) (μ := μ)
      refine ⟨.ref μ.length, μ ++ [[.int a, .int b, .int (977 * ((0 + i : Nat) : Int))]], ?_, ⟨by simp [p1], fun r hr => ?_⟩, by rw [p1]⟩
      · unfold tf
        simp (config := {decide := false}) only [e_var, e_k, e_glob, e_nil, e_cons, e_tup, e_lst, e_call, e_bin, e_cmp, e_chain, e_and, e_or, e_not, e_ite, e_neg, e_idx, e_slc, e_rev, e_bi, e_isi, e_alloc, e_olen, e_oidx, e_oin, s_skip, s_seq, s_expr, s_set, s_par, s_own, s_app, s_setR, s_ife, s_ret, s_frz, s_raise, rb_ok, rs_nx, rs_rt, startE, finish, List.map_cons, List.map_nil, List.cons_append, List.nil_append, List.length_cons, List.length_nil, List.replicate, List.getElem?_cons_zero, List.getElem?_cons_succ, List.set_cons_zero, List.set_cons_succ, packOf, partE, condE, evT, rT, rI, rB, rD, flat, if_true, if_false, ↓reduceIte, Bool.false_eq_true, Nat.reduceAdd, Nat.reduceSub, bindT, bindAll, wipeE, bindOwn, ownOf, pBin, pCmp, Bool.not_true, Bool.not_false, Option.map_some, wipeE, bindAll, mul_ok (mulOk_l (i := 977) (j := ((0 + i : Nat) : Int)) (by decide) (by decide)), e]
      · by_cases hr' : r < μ.length
        · obtain ⟨a', b', c', e', hc'⟩ := p2 r (by omega)
          exact ⟨a', b', c', by rw [List.getElem?_append_left hr']; exact e', hc'⟩
        · have : r = μ.length := by omega
          subst this
          exact ⟨a, b, 977 * ((0 + i : Nat) : Int), by simp, by omega⟩)
  have hc := ev_comp (Φ := callN T (k + 1)) (own := [2, 3]) (tg := [2, 3]) (kd := .enum) (src := .cons (.bin .add (.slc (.var 0) .nil (.var 1)) (.lst (.cons (.k (.int 0)) .nil))) .nil) (cnd := .nil) (elt := .call "_law_well" (.cons (.var 3) (.cons (.bin .mul (.k (.int 977)) (.var 2)) .nil)))
    (δ := [.val (.scr (ns.map D.int)), .val (.int m), .no, .no]) (μ := []) (d := .tup [.lst (zs.map D.int)]) (μ0 := []) (g := []) (xs := enumFrom 0 (zs.map D.int)) (by simp (config := {decide := false}) only [e_var, e_k, e_glob, e_nil, e_cons, e_tup, e_lst, e_call, e_bin, e_cmp, e_chain, e_and, e_or, e_not, e_ite, e_neg, e_idx, e_slc, e_rev, e_bi, e_isi, e_alloc, e_olen, e_oidx, e_oin, s_skip, s_seq, s_expr, s_set, s_par, s_own, s_app, s_setR, s_ife, s_ret, s_frz, s_raise, rb_ok, rs_nx, rs_rt, startE, finish, List.map_cons, List.map_nil, List.cons_append, List.nil_append, List.length_cons, List.length_nil, List.replicate, List.getElem?_cons_zero, List.getElem?_cons_succ, List.set_cons_zero, List.set_cons_succ, packOf, partE, condE, evT, rT, rI, rB, rD, flat, if_true, if_false, ↓reduceIte, Bool.false_eq_true, Nat.reduceAdd, Nat.reduceSub, bindT, bindAll, wipeE, bindOwn, ownOf, pBin, pCmp, Bool.not_true, Bool.not_false, Option.map_some, hslc, hadd]) (by simp [pSrc, packOf, seqOf, gd]) e
  have hn : μ'.length = zs.length := by rw [p1, enum_len, List.length_map]; simp
  refine ⟨zs.length, μ', ?_, hn, l1, fun r hr => p2 r (by rw [← p1, hn]; exact hr)⟩
  simp (config := {decide := false}) only [e_var, e_k, e_glob, e_nil, e_cons, e_tup, e_lst, e_call, e_bin, e_cmp, e_chain, e_and, e_or, e_not, e_ite, e_neg, e_idx, e_slc, e_rev, e_bi, e_isi, e_alloc, e_olen, e_oidx, e_oin, s_skip, s_seq, s_expr, s_set, s_par, s_own, s_app, s_setR, s_ife, s_ret, s_frz, s_raise, rb_ok, rs_nx, rs_rt, startE, finish, List.map_cons, List.map_nil, List.cons_append, List.nil_append, List.length_cons, List.length_nil, List.replicate, List.getElem?_cons_zero, List.getElem?_cons_succ, List.set_cons_zero, List.set_cons_succ, packOf, partE, condE, evT, rT, rI, rB, rD, flat, if_true, if_false, ↓reduceIte, Bool.false_eq_true, Nat.reduceAdd, Nat.reduceSub, bindT, bindAll, wipeE, bindOwn, ownOf, pBin, pCmp, Bool.not_true, Bool.not_false, Option.map_some, hc]
  rw [enum_len, List.length_map] at l
  congr 3
  apply List.ext_getElem?
  intro i
  by_cases hi : i < zs.length
  · have : i < ys.length := by omega
    rw [List.getElem?_eq_getElem this]
    have := r i ys[i] (List.getElem?_eq_getElem this)
    rw [this]
    simp [hi]
  · rw [List.getElem?_eq_none (by omega), List.getElem?_eq_none (by simp; omega)]
end
end SC.P

set_option Elab.async false
set_option linter.all false
set_option maxRecDepth 100000
/-! P2: rules drawn. -/
namespace SC.P
open PySem L2
def testL : List String := ["come", "go", "hide", "show", "act", "shown", "chosen", "main", "only", "empty"]
def deedL : List String := ["before", "choose", "keep", "next", "reach", "spare", "unchoose"]
def wordL : List Str := testL.map Str.ofString ++ testL.map fun w => Str.ofString "no " ++ Str.ofString w
def TestD (d : D) : Prop := ∃ w ∈ wordL, d = .str w
def ClauseD (d : D) : Prop := ∃ ts y, d = .tup [.tup ts, .str (Str.ofString y)] ∧ ts.length ≤ 3 ∧ (∀ t ∈ ts, TestD t) ∧ y ∈ deedL
def RuleD (n : Nat) (d : D) : Prop := ∃ cs, d = .tup cs ∧ cs.length ≤ n ∧ ∀ c ∈ cs, ClauseD c
/-- what one of many parts gives -/
structure Got (r n : Nat) (μ : Store) (res : Res (D × Store)) (P : D → Prop) : Prop where
  ex : ∃ d μ', res = .ok (d, μ') ∧ P d ∧ Bag n r μ' ∧ Fr r μ μ'
theorem line1000 : 1000 ≤ sizeLine := by decide
theorem strD_mem {l : List String} {x : D} (h : x ∈ strD l) : ∃ y ∈ l, x = .str (Str.ofString y) := by
  obtain ⟨y, h1, h2⟩ := List.mem_map.mp h
  exact ⟨y, h1, h2.symm⟩
theorem words_ok : ∀ p ∈ ["", "no "], ∀ t ∈ testL, (Str.ofString p ++ Str.ofString t) ∈ wordL ∧ (Str.ofString p).length + (Str.ofString t).length ≤ 1000 := by decide +kernel
theorem len_list {l : List D} : ((l.length : Nat) : Int) = l.length := rfl
theorem rg_nat (m : Nat) (hm : m ≤ 1000) : rgOk 0 (m : Int) = true ∧ (rg 0 (m : Int)).length = m := by
  constructor
  · unfold rgOk
    have := line1000
    simp
    omega
  · unfold rg; simp
theorem many {f : D → Store → Res (Option D × Store)} {r : Nat} (c : Nat) (P : D → Prop) (st : ∀ x μ j, Bag (j + c) r μ → ∃ d μ', f x μ = .ok (some d, μ') ∧ P d ∧ Bag j r μ' ∧ Fr r μ μ') :
    ∀ (xs : List D) (n : Nat) (μ : Store), Bag (n + c * xs.length) r μ → ∃ ys μ', compLoop f [] xs μ = .ok (ys, μ') ∧ ys.length = xs.length ∧ (∀ y ∈ ys, P y) ∧ Bag n r μ' ∧ Fr r μ μ'
  | [], n, μ, b => ⟨[], μ, rfl, rfl, fun _ h => absurd h (by simp), b, .refl⟩
  | x :: xs, n, μ, b => by
    obtain ⟨d, μ1, e1, p1, b1, f1⟩ := st x μ (n + c * xs.length) (b.mono (by rw [List.length_cons, Nat.mul_add]; omega))
    obtain ⟨ys, μ2, e2, l2, p2, b2, f2⟩ := many c P st xs n μ1 b1
    refine ⟨d :: ys, μ2, ?_, by simp [l2], fun y hy => ?_, b2, f1.trans f2⟩
    · unfold compLoop
      rw [gok0, e1]
      simp [e2]
    · rcases List.mem_cons.mp hy with rfl | hy
      · exact p1
      · exact p2 y hy
theorem pSrc_rg {μ : Store} {m : Nat} (hm : m ≤ 1000) : pSrc .range μ [.int (m : Int)] = some ([], rg 0 (m : Int)) := by
  simp only [pSrc]
  rw [if_pos (rg_nat m hm).1]
theorem mem_cut {xs : List D} {lo hi : Option Int} {x : D} (hx : x ∈ cut xs lo hi) : x ∈ xs := List.mem_of_mem_drop (List.mem_of_mem_take hx)
theorem len_cut {xs : List D} {lo hi : Option Int} : (cut xs lo hi).length ≤ xs.length := by
  unfold cut
  rw [List.length_take, List.length_drop]
  omega
theorem len_cutN {xs : List D} {m : Nat} : (cut xs none (some (m : Int))).length ≤ m := by
  unfold cut
  rw [List.length_take, HT.sIx_nat]
  omega
theorem mem_rep {xs : List D} {k : Int} {x : D} (hx : x ∈ rep xs k) : x ∈ xs := by
  unfold rep at hx
  rw [List.mem_flatten] at hx
  obtain ⟨l, h1, h2⟩ := hx
  rw [List.mem_replicate] at h1
  rw [← h1.2]
  exact h2
theorem len_rep {xs : List D} {k : Int} : (rep xs k).length = k.toNat * xs.length := by
  unfold rep
  simp
theorem add_tt {μ : Store} {xs ys : List D} (h : xs.length + ys.length ≤ 1000) : pAdd μ (.tup xs) (.tup ys) = some (.tup (xs ++ ys)) := by
  simp only [pAdd]
  rw [if_pos (Nat.le_trans h line1000)]
theorem slc_t {μ : Store} {xs : List D} {lo hi : Option Int} : pSlc μ (.tup xs) lo hi = some (.tup (cut xs lo hi)) := rfl
theorem mul_ti {xs : List D} {k : Int} (h1 : 0 ≤ k) (h2 : k ≤ 1000) (h3 : xs.length * k.toNat ≤ 1000) : pMul (.tup xs) (.int k) = some (.tup (rep xs k)) := by
  have := line1000
  have e : repOk xs.length k = true := by
    unfold repOk
    simp only [Bool.and_eq_true, decide_eq_true_eq]
    omega
  simp only [pMul]
  rw [if_pos e]
theorem len_t {μ : Store} {xs : List D} : pBf .len μ [.tup xs] = some (.int xs.length) := rfl
theorem eq_ii {μ : Store} {i j : Int} : pEq μ (.int i) (.int j) = some (i == j) := rfl
theorem tuple_lst {μ : Store} {xs : List D} : pBf .tuple μ [.lst xs] = some (.tup xs) := rfl
section
variable {T : Tbl} (h : T0sub T) {k r n : Nat} {μ : Store}
include h
theorem tests : callN T (k + 1) "_law_tests" [] μ = .ok (.lst (strD testL), μ) := by
  rw [call_eq (t__law_tests h) rfl]
  unfold d__law_tests
  simp (config := {decide := false}) only [e_var, e_k, e_glob, e_nil, e_cons, e_tup, e_lst, e_call, e_bin, e_cmp, e_chain, e_and, e_or, e_not, e_ite, e_neg, e_idx, e_slc, e_rev, e_bi, e_isi, e_alloc, e_olen, e_oidx, e_oin, s_skip, s_seq, s_expr, s_set, s_par, s_own, s_app, s_setR, s_ife, s_ret, s_frz, s_raise, rb_ok, rs_nx, rs_rt, startE, finish, List.map_cons, List.map_nil, List.cons_append, List.nil_append, List.length_cons, List.length_nil, List.replicate, List.getElem?_cons_zero, List.getElem?_cons_succ, List.set_cons_zero, List.set_cons_succ, packOf, partE, condE, evT, rT, rI, rB, rD, flat, if_true, if_false, ↓reduceIte, Bool.false_eq_true, Nat.reduceAdd, Nat.reduceSub, bindT, bindAll, wipeE, bindOwn, ownOf, pBin, pCmp, Bool.not_true, Bool.not_false, Option.map_some]
  rfl
theorem deeds : callN T (k + 1) "_law_deeds" [] μ = .ok (.lst (strD deedL), μ) := by
  rw [call_eq (t__law_deeds h) rfl]
  unfold d__law_deeds
  simp (config := {decide := false}) only [e_var, e_k, e_glob, e_nil, e_cons, e_tup, e_lst, e_call, e_bin, e_cmp, e_chain, e_and, e_or, e_not, e_ite, e_neg, e_idx, e_slc, e_rev, e_bi, e_isi, e_alloc, e_olen, e_oidx, e_oin, s_skip, s_seq, s_expr, s_set, s_par, s_own, s_app, s_setR, s_ife, s_ret, s_frz, s_raise, rb_ok, rs_nx, rs_rt, startE, finish, List.map_cons, List.map_nil, List.cons_append, List.nil_append, List.length_cons, List.length_nil, List.replicate, List.getElem?_cons_zero, List.getElem?_cons_succ, List.set_cons_zero, List.set_cons_succ, packOf, partE, condE, evT, rT, rI, rB, rD, flat, if_true, if_false, ↓reduceIte, Bool.false_eq_true, Nat.reduceAdd, Nat.reduceSub, bindT, bindAll, wipeE, bindOwn, ownOf, pBin, pCmp, Bool.not_true, Bool.not_false, Option.map_some]
  rfl
theorem test (b : Bag (n + 2) r μ) : Got r n μ (callN T (k + 2) "_law_test" [.ref r] μ) TestD := by
  rw [call_eq (t__law_test h) rfl]
  unfold d__law_test
  obtain ⟨v, μ1, e1, v0, v1, b1, f1⟩ := take h (k := k) (m := 3) (n := n + 1) b (by decide) (by decide)
  obtain ⟨u, μ2, e2, u0, u1, b2, f2⟩ := take h (k := k) (m := 10) (n := n) b1 (by decide) (by decide)
  obtain ⟨x, hx, ex⟩ := atI_pick (xs := [.str (Str.ofString ""), .str (Str.ofString ""), .str (Str.ofString "no ")]) v0 (by simpa using v1)
  obtain ⟨y, hy, ey⟩ := atI_pick (xs := strD testL) u0 (by simpa [strD, testL] using u1)
  obtain ⟨t, ht, rfl⟩ := strD_mem hy
  have hp : ∃ p ∈ ["", "no "], x = .str (Str.ofString p) := by
    simp only [List.mem_cons, List.not_mem_nil, or_false] at hx
    rcases hx with rfl | rfl | rfl
    · exact ⟨"", by simp, rfl⟩
    · exact ⟨"", by simp, rfl⟩
    · exact ⟨"no ", by simp, rfl⟩
  obtain ⟨p, hp, rfl⟩ := hp
  obtain ⟨w1, w2⟩ := words_ok p hp t ht
  have ha : pAdd μ2 (.str (Str.ofString p)) (.str (Str.ofString t)) = some (.str (Str.ofString p ++ Str.ofString t)) := by
    simp only [pAdd]
    rw [if_pos (Nat.le_trans w2 line1000)]
  refine ⟨_, μ2, ?_, ⟨_, w1, rfl⟩, b2, f1.trans f2⟩
  simp (config := {decide := false}) only [e_var, e_k, e_glob, e_nil, e_cons, e_tup, e_lst, e_call, e_bin, e_cmp, e_chain, e_and, e_or, e_not, e_ite, e_neg, e_idx, e_slc, e_rev, e_bi, e_isi, e_alloc, e_olen, e_oidx, e_oin, s_skip, s_seq, s_expr, s_set, s_par, s_own, s_app, s_setR, s_ife, s_ret, s_frz, s_raise, rb_ok, rs_nx, rs_rt, startE, finish, List.map_cons, List.map_nil, List.cons_append, List.nil_append, List.length_cons, List.length_nil, List.replicate, List.getElem?_cons_zero, List.getElem?_cons_succ, List.set_cons_zero, List.set_cons_succ, packOf, partE, condE, evT, rT, rI, rB, rD, flat, if_true, if_false, ↓reduceIte, Bool.false_eq_true, Nat.reduceAdd, Nat.reduceSub, bindT, bindAll, wipeE, bindOwn, ownOf, pBin, pCmp, Bool.not_true, Bool.not_false, Option.map_some, e1, e2, pIdx_lst, ex, ey, tests h, ha]
theorem clause (b : Bag (n + 8) r μ) : Got r n μ (callN T (k + 3) "_law_clause" [.ref r] μ) ClauseD := by
  rw [call_eq (t__law_clause h) rfl]
  unfold d__law_clause
  obtain ⟨v, μ1, e1, v0, v1, b1, f1⟩ := take h (k := k + 1) (m := 6) (n := n + 7) b (by decide) (by decide)
  obtain ⟨x, hx, ex⟩ := atI_pick (xs := [.int 0, .int 1, .int 1, .int 2, .int 2, .int 3]) v0 (by simpa using v1)
  have hm : ∃ m : Nat, m ≤ 3 ∧ x = .int (m : Int) := by
    simp only [List.mem_cons, List.not_mem_nil, or_false] at hx
    rcases hx with rfl | rfl | rfl | rfl | rfl | rfl
    · exact ⟨0, by omega, rfl⟩
    · exact ⟨1, by omega, rfl⟩
    · exact ⟨1, by omega, rfl⟩
    · exact ⟨2, by omega, rfl⟩
    · exact ⟨2, by omega, rfl⟩
    · exact ⟨3, by omega, rfl⟩
  obtain ⟨m, hm, rfl⟩ := hm
  obtain ⟨ys, μ2, e2, l2, p2, b2, f2⟩ := many (f := tf (callN T (k + 2)) [2] [2] .nil (.call "_law_test" (.cons (.var 0) .nil)) [.val (.ref r), .no, .no]) (r := r) 2 TestD (fun x μ j b => by
    obtain ⟨d, μ', e, p, b', f'⟩ := (test h (k := k) b).ex
    refine ⟨d, μ', ?_, p, b', f'⟩
    unfold tf
    simp (config := {decide := false}) only [e_var, e_k, e_glob, e_nil, e_cons, e_tup, e_lst, e_call, e_bin, e_cmp, e_chain, e_and, e_or, e_not, e_ite, e_neg, e_idx, e_slc, e_rev, e_bi, e_isi, e_alloc, e_olen, e_oidx, e_oin, s_skip, s_seq, s_expr, s_set, s_par, s_own, s_app, s_setR, s_ife, s_ret, s_frz, s_raise, rb_ok, rs_nx, rs_rt, startE, finish, List.map_cons, List.map_nil, List.cons_append, List.nil_append, List.length_cons, List.length_nil, List.replicate, List.getElem?_cons_zero, List.getElem?_cons_succ, List.set_cons_zero, List.set_cons_succ, packOf, partE, condE, evT, rT, rI, rB, rD, flat, if_true, if_false, ↓reduceIte, Bool.false_eq_true, Nat.reduceAdd, Nat.reduceSub, bindT, bindAll, wipeE, bindOwn, ownOf, pBin, pCmp, Bool.not_true, Bool.not_false, Option.map_some, e]) (rg 0 (m : Int)) (n + 1) μ1 (b1.mono (by rw [(rg_nat m (by omega)).2]; omega))
  obtain ⟨u, μ3, e3, u0, u1, b3, f3⟩ := take h (k := k + 1) (m := 7) (n := n) b2 (by decide) (by decide)
  obtain ⟨y, hy, ey⟩ := atI_pick (xs := strD deedL) u0 (by simpa [strD, deedL] using u1)
  obtain ⟨w, hw, rfl⟩ := strD_mem hy
  rw [(rg_nat m (by omega)).2] at l2
  refine ⟨.tup [.tup ys, .str (Str.ofString w)], μ3, ?_, ⟨ys, w, rfl, by omega, p2, hw⟩, b3, (f1.trans f2).trans f3⟩
  have hc := ev_comp (Φ := callN T (k + 2)) (own := [2]) (tg := [2]) (kd := .range) (src := .cons (.idx (.lst (.cons (.k (.int 0)) (.cons (.k (.int 1)) (.cons (.k (.int 1)) (.cons (.k (.int 2)) (.cons (.k (.int 2)) (.cons (.k (.int 3)) .nil))))))) (.call "_law_take" (.cons (.var 0) (.cons (.k (.int 6)) .nil)))) .nil) (cnd := .nil) (elt := .call "_law_test" (.cons (.var 0) .nil))
    (δ := [.val (.ref r), .no, .no]) (μ := μ) (d := .tup [.int (m : Int)]) (by simp (config := {decide := false}) only [e_var, e_k, e_glob, e_nil, e_cons, e_tup, e_lst, e_call, e_bin, e_cmp, e_chain, e_and, e_or, e_not, e_ite, e_neg, e_idx, e_slc, e_rev, e_bi, e_isi, e_alloc, e_olen, e_oidx, e_oin, s_skip, s_seq, s_expr, s_set, s_par, s_own, s_app, s_setR, s_ife, s_ret, s_frz, s_raise, rb_ok, rs_nx, rs_rt, startE, finish, List.map_cons, List.map_nil, List.cons_append, List.nil_append, List.length_cons, List.length_nil, List.replicate, List.getElem?_cons_zero, List.getElem?_cons_succ, List.set_cons_zero, List.set_cons_succ, packOf, partE, condE, evT, rT, rI, rB, rD, flat, if_true, if_false, ↓reduceIte, Bool.false_eq_true, Nat.reduceAdd, Nat.reduceSub, bindT, bindAll, wipeE, bindOwn, ownOf, pBin, pCmp, Bool.not_true, Bool.not_false, Option.map_some, e1, pIdx_lst, ex]) (pSrc_rg (by omega)) e2
  simp (config := {decide := false}) only [e_var, e_k, e_glob, e_nil, e_cons, e_tup, e_lst, e_call, e_bin, e_cmp, e_chain, e_and, e_or, e_not, e_ite, e_neg, e_idx, e_slc, e_rev, e_bi, e_isi, e_alloc, e_olen, e_oidx, e_oin, s_skip, s_seq, s_expr, s_set, s_par, s_own, s_app, s_setR, s_ife, s_ret, s_frz, s_raise, rb_ok, rs_nx, rs_rt, startE, finish, List.map_cons, List.map_nil, List.cons_append, List.nil_append, List.length_cons, List.length_nil, List.replicate, List.getElem?_cons_zero, List.getElem?_cons_succ, List.set_cons_zero, List.set_cons_succ, packOf, partE, condE, evT, rT, rI, rB, rD, flat, if_true, if_false, ↓reduceIte, Bool.false_eq_true, Nat.reduceAdd, Nat.reduceSub, bindT, bindAll, wipeE, bindOwn, ownOf, pBin, pCmp, Bool.not_true, Bool.not_false, Option.map_some, hc, tuple_lst, deeds h, e3, pIdx_lst, ey]
theorem known (b : Bag (n + 1) r μ) : Got r n μ (callN T (k + 2) "_law_known" [.ref r] μ) (RuleD 3) := by
  rw [call_eq (t__law_known h) rfl]
  unfold d__law_known
  obtain ⟨v, μ1, e1, v0, v1, b1, f1⟩ := take h (k := k) (m := 5) (n := n) b (by decide) (by decide)
  have h3 : (3 : Nat) < sizeLine := by decide
  have h4 : (4 : Nat) < sizeLine := by decide
  let c (ts : List String) (y : String) : D := .tup [.tup (strD ts), .str (Str.ofString y)]
  obtain ⟨x, hx, ex⟩ := atI_pick (xs := [.tup [c ["hide"] "unchoose", c ["go", "main"] "next"], .tup [c ["act", "no shown"] "spare"], .tup [], .tup [c ["hide", "main"] "before", c ["hide"] "unchoose", c ["go", "only"] "next"], .tup [c ["come", "empty"] "choose", c ["act", "no main"] "spare", c ["go", "main"] "before"]]) v0 (by simpa using v1)
  refine ⟨x, μ1, ?_, ?_, b1, f1⟩
  · have e5 : ∀ a b c' d e : D, ∀ z, atI [a, b, c', d, e] v = some z → (match (some z : Option D) with | some d => (Res.ok (d, μ1) : Res (D × Store)) | none => .bad) = .ok (z, μ1) := fun _ _ _ _ _ _ _ => rfl
    simp (config := {decide := false}) only [e_var, e_k, e_glob, e_nil, e_cons, e_tup, e_lst, e_call, e_bin, e_cmp, e_chain, e_and, e_or, e_not, e_ite, e_neg, e_idx, e_slc, e_rev, e_bi, e_isi, e_alloc, e_olen, e_oidx, e_oin, s_skip, s_seq, s_expr, s_set, s_par, s_own, s_app, s_setR, s_ife, s_ret, s_frz, s_raise, rb_ok, rs_nx, rs_rt, startE, finish, List.map_cons, List.map_nil, List.cons_append, List.nil_append, List.length_cons, List.length_nil, List.replicate, List.getElem?_cons_zero, List.getElem?_cons_succ, List.set_cons_zero, List.set_cons_succ, packOf, partE, condE, evT, rT, rI, rB, rD, flat, if_true, if_false, ↓reduceIte, Bool.false_eq_true, Nat.reduceAdd, Nat.reduceSub, bindT, bindAll, wipeE, bindOwn, ownOf, pBin, pCmp, Bool.not_true, Bool.not_false, Option.map_some, h3, h4, e1]
    simp only [c, strD, List.map_cons, List.map_nil] at ex
    rw [ex]
    rfl
  · have cl : ∀ (ts : List String) (y : String), ts.length ≤ 3 → (∀ t ∈ ts, Str.ofString t ∈ wordL) → y ∈ deedL → ClauseD (c ts y) := fun ts y h1 h2 h3 => ⟨strD ts, y, rfl, by simpa [strD] using h1, fun t ht => by
      obtain ⟨z, hz, rfl⟩ := strD_mem ht
      exact ⟨_, h2 z hz, rfl⟩, h3⟩
    have rl : ∀ (cs : List D), cs.length ≤ 3 → (∀ c ∈ cs, ClauseD c) → RuleD 3 (.tup cs) := fun cs h1 h2 => ⟨cs, rfl, h1, h2⟩
    have c1 := cl ["hide"] "unchoose" (by decide) (by decide +kernel) (by decide)
    have c2 := cl ["go", "main"] "next" (by decide) (by decide +kernel) (by decide)
    have c3 := cl ["act", "no shown"] "spare" (by decide) (by decide +kernel) (by decide)
    have c4 := cl ["hide", "main"] "before" (by decide) (by decide +kernel) (by decide)
    have c5 := cl ["go", "only"] "next" (by decide) (by decide +kernel) (by decide)
    have c6 := cl ["come", "empty"] "choose" (by decide) (by decide +kernel) (by decide)
    have c7 := cl ["act", "no main"] "spare" (by decide) (by decide +kernel) (by decide)
    have c8 := cl ["go", "main"] "before" (by decide) (by decide +kernel) (by decide)
    simp only [List.mem_cons, List.not_mem_nil, or_false] at hx
    rcases hx with rfl | rfl | rfl | rfl | rfl
    · exact rl _ (by simp) (by simp [c1, c2])
    · exact rl _ (by simp) (by simp [c3])
    · exact rl _ (by simp) (by simp)
    · exact rl _ (by simp) (by simp [c1, c4, c5])
    · exact rl _ (by simp) (by simp [c6, c7, c8])
theorem rule {m : Nat} (hm : m ≤ 8) (b : Bag (n + 66) r μ) : Got r n μ (callN T (k + 4) "_law_rule" [.ref r, .int (m : Int)] μ) (RuleD m) := by
  rw [call_eq (t__law_rule h) rfl]
  unfold d__law_rule
  obtain ⟨v, μ1, e1, v0, v1, b1, f1⟩ := take h (k := k + 2) (m := 4) (n := n + 65) b (by decide) (by decide)
  by_cases hv : v = 0
  · subst hv
    obtain ⟨u, μ2, e2, u0, u1, b2, f2⟩ := take h (k := k + 2) (m := (m : Int) + 1) (n := n + 64) b1 (by omega) (by omega)
    obtain ⟨j, rfl⟩ := Int.eq_ofNat_of_zero_le u0
    obtain ⟨ys, μ3, e3, l3, p3, b3, f3⟩ := many (f := tf (callN T (k + 3)) [5] [5] .nil (.call "_law_clause" (.cons (.var 0) .nil)) [.val (.ref r), .val (.int (m : Int)), .val (.int 0), .no, .no, .no]) (r := r) 8 ClauseD (fun x μ j b => by
      obtain ⟨d, μ', e, p, b', f'⟩ := (clause h (k := k) b).ex
      refine ⟨d, μ', ?_, p, b', f'⟩
      unfold tf
      simp (config := {decide := false}) only [e_var, e_k, e_glob, e_nil, e_cons, e_tup, e_lst, e_call, e_bin, e_cmp, e_chain, e_and, e_or, e_not, e_ite, e_neg, e_idx, e_slc, e_rev, e_bi, e_isi, e_alloc, e_olen, e_oidx, e_oin, s_skip, s_seq, s_expr, s_set, s_par, s_own, s_app, s_setR, s_ife, s_ret, s_frz, s_raise, rb_ok, rs_nx, rs_rt, startE, finish, List.map_cons, List.map_nil, List.cons_append, List.nil_append, List.length_cons, List.length_nil, List.replicate, List.getElem?_cons_zero, List.getElem?_cons_succ, List.set_cons_zero, List.set_cons_succ, packOf, partE, condE, evT, rT, rI, rB, rD, flat, if_true, if_false, ↓reduceIte, Bool.false_eq_true, Nat.reduceAdd, Nat.reduceSub, bindT, bindAll, wipeE, bindOwn, ownOf, pBin, pCmp, Bool.not_true, Bool.not_false, Option.map_some, e]) (rg 0 (j : Int)) n μ2 (b2.mono (by rw [(rg_nat j (by omega)).2]; omega))
    rw [(rg_nat j (by omega)).2] at l3
    refine ⟨.tup ys, μ3, ?_, ⟨ys, rfl, by omega, p3⟩, b3, (f1.trans f2).trans f3⟩
    have hc := ev_comp (Φ := callN T (k + 3)) (own := [5]) (tg := [5]) (kd := .range) (src := .cons (.call "_law_take" (.cons (.var 0) (.cons (.bin .add (.var 1) (.k (.int 1))) .nil))) .nil) (cnd := .nil) (elt := .call "_law_clause" (.cons (.var 0) .nil))
      (δ := [.val (.ref r), .val (.int (m : Int)), .val (.int 0), .no, .no, .no]) (μ := μ1) (d := .tup [.int (j : Int)]) (by simp (config := {decide := false}) only [e_var, e_k, e_glob, e_nil, e_cons, e_tup, e_lst, e_call, e_bin, e_cmp, e_chain, e_and, e_or, e_not, e_ite, e_neg, e_idx, e_slc, e_rev, e_bi, e_isi, e_alloc, e_olen, e_oidx, e_oin, s_skip, s_seq, s_expr, s_set, s_par, s_own, s_app, s_setR, s_ife, s_ret, s_frz, s_raise, rb_ok, rs_nx, rs_rt, startE, finish, List.map_cons, List.map_nil, List.cons_append, List.nil_append, List.length_cons, List.length_nil, List.replicate, List.getElem?_cons_zero, List.getElem?_cons_succ, List.set_cons_zero, List.set_cons_succ, packOf, partE, condE, evT, rT, rI, rB, rD, flat, if_true, if_false, ↓reduceIte, Bool.false_eq_true, Nat.reduceAdd, Nat.reduceSub, bindT, bindAll, wipeE, bindOwn, ownOf, pBin, pCmp, Bool.not_true, Bool.not_false, Option.map_some, e2, add_ii]) (pSrc_rg (by omega)) e3
    simp (config := {decide := false}) only [e_var, e_k, e_glob, e_nil, e_cons, e_tup, e_lst, e_call, e_bin, e_cmp, e_chain, e_and, e_or, e_not, e_ite, e_neg, e_idx, e_slc, e_rev, e_bi, e_isi, e_alloc, e_olen, e_oidx, e_oin, s_skip, s_seq, s_expr, s_set, s_par, s_own, s_app, s_setR, s_ife, s_ret, s_frz, s_raise, rb_ok, rs_nx, rs_rt, startE, finish, List.map_cons, List.map_nil, List.cons_append, List.nil_append, List.length_cons, List.length_nil, List.replicate, List.getElem?_cons_zero, List.getElem?_cons_succ, List.set_cons_zero, List.set_cons_succ, packOf, partE, condE, evT, rT, rI, rB, rD, flat, if_true, if_false, ↓reduceIte, Bool.false_eq_true, Nat.reduceAdd, Nat.reduceSub, bindT, bindAll, wipeE, bindOwn, ownOf, pBin, pCmp, Bool.not_true, Bool.not_false, Option.map_some, hc, tuple_lst, e1, eq_ii, BEq.rfl]
  · obtain ⟨d, μ2, e2, ⟨cs, rfl, lc, hc⟩, b2, f2⟩ := (known h (k := k + 1) (n := n + 64) b1).ex
    obtain ⟨a, μ3, e3, a0, a1, b3, f3⟩ := take h (k := k + 2) (m := (cs.length : Int) + 1) (n := n + 63) b2 (by omega) (by omega)
    have hv0 : ((v == 0) = false) := by simp [hv]
    have fin : ∀ ds : List D, (∀ c ∈ ds, ClauseD c) → RuleD m (.tup (cut ds none (some (m : Int)))) := fun ds hd => ⟨_, rfl, len_cutN, fun c hc => hd c (mem_cut hc)⟩
    have l1 : (cut cs none (some a)).length ≤ 3 := Nat.le_trans len_cut lc
    have l2 : (cut cs (some a) none).length ≤ 3 := Nat.le_trans len_cut lc
    have l3 : (cut cs (some (a + 1)) none).length ≤ 3 := Nat.le_trans len_cut lc
    by_cases hv1 : v = 1
    · subst hv1
      obtain ⟨d, μ4, e4, p4, b4, f4⟩ := (clause h (k := k) (n := n + 55) b3).ex
      refine ⟨_, μ4, ?_, fin (cut cs none (some a) ++ [d] ++ cut cs (some a) none) (fun c h => ?_), b4.mono (by omega), ((f1.trans f2).trans f3).trans f4⟩
      · simp (config := {decide := false}) only [e_var, e_k, e_glob, e_nil, e_cons, e_tup, e_lst, e_call, e_bin, e_cmp, e_chain, e_and, e_or, e_not, e_ite, e_neg, e_idx, e_slc, e_rev, e_bi, e_isi, e_alloc, e_olen, e_oidx, e_oin, s_skip, s_seq, s_expr, s_set, s_par, s_own, s_app, s_setR, s_ife, s_ret, s_frz, s_raise, rb_ok, rs_nx, rs_rt, startE, finish, List.map_cons, List.map_nil, List.cons_append, List.nil_append, List.length_cons, List.length_nil, List.replicate, List.getElem?_cons_zero, List.getElem?_cons_succ, List.set_cons_zero, List.set_cons_succ, packOf, partE, condE, evT, rT, rI, rB, rD, flat, if_true, if_false, ↓reduceIte, Bool.false_eq_true, Nat.reduceAdd, Nat.reduceSub, bindT, bindAll, wipeE, bindOwn, ownOf, pBin, pCmp, Bool.not_true, Bool.not_false, Option.map_some, e1, eq_ii, hv0, e2, len_t, add_ii, e3, BEq.rfl, slc_t, e4, add_tt (show (cut cs none (some a)).length + [d].length ≤ 1000 by simp; omega), add_tt (show (cut cs none (some a) ++ [d]).length + (cut cs (some a) none).length ≤ 1000 by simp; omega)]
      · simp only [List.mem_append, List.mem_singleton] at h
        rcases h with (h | rfl) | h
        · exact hc c (mem_cut h)
        · exact p4
        · exact hc c (mem_cut h)
    · have hv10 : ((v == 1) = false) := by simp [hv1]
      by_cases hv2 : v = 2
      · subst hv2
        obtain ⟨d, μ4, e4, p4, b4, f4⟩ := (clause h (k := k) (n := n + 55) b3).ex
        obtain ⟨u, μ5, e5, u0, u1, b5, f5⟩ := take h (k := k + 2) (m := 2) (n := n + 54) b4 (by decide) (by decide)
        have hr : (rep [d] u).length ≤ 1 := by rw [len_rep]; simp; omega
        refine ⟨_, μ5, ?_, fin (cut cs none (some a) ++ rep [d] u ++ cut cs (some (a + 1)) none) (fun c h => ?_), b5.mono (by omega), (((f1.trans f2).trans f3).trans f4).trans f5⟩
        · simp (config := {decide := false}) only [e_var, e_k, e_glob, e_nil, e_cons, e_tup, e_lst, e_call, e_bin, e_cmp, e_chain, e_and, e_or, e_not, e_ite, e_neg, e_idx, e_slc, e_rev, e_bi, e_isi, e_alloc, e_olen, e_oidx, e_oin, s_skip, s_seq, s_expr, s_set, s_par, s_own, s_app, s_setR, s_ife, s_ret, s_frz, s_raise, rb_ok, rs_nx, rs_rt, startE, finish, List.map_cons, List.map_nil, List.cons_append, List.nil_append, List.length_cons, List.length_nil, List.replicate, List.getElem?_cons_zero, List.getElem?_cons_succ, List.set_cons_zero, List.set_cons_succ, packOf, partE, condE, evT, rT, rI, rB, rD, flat, if_true, if_false, ↓reduceIte, Bool.false_eq_true, Nat.reduceAdd, Nat.reduceSub, bindT, bindAll, wipeE, bindOwn, ownOf, pBin, pCmp, Bool.not_true, Bool.not_false, Option.map_some, e1, eq_ii, hv0, hv10, e2, len_t, add_ii, e3, BEq.rfl, slc_t, e4, e5, mul_ti (xs := [d]) u0 (by omega) (by simp; omega), add_tt (show (cut cs none (some a)).length + (rep [d] u).length ≤ 1000 by omega), add_tt (show (cut cs none (some a) ++ rep [d] u).length + (cut cs (some (a + 1)) none).length ≤ 1000 by simp; omega)]
        · simp only [List.mem_append] at h
          rcases h with (h | h) | h
          · exact hc c (mem_cut h)
          · rw [List.mem_singleton.mp (mem_rep h)]
            exact p4
          · exact hc c (mem_cut h)
      · have hv20 : ((v == 2) = false) := by simp [hv2]
        refine ⟨_, μ3, ?_, fin cs hc, b3.mono (by omega), (f1.trans f2).trans f3⟩
        simp (config := {decide := false}) only [e_var, e_k, e_glob, e_nil, e_cons, e_tup, e_lst, e_call, e_bin, e_cmp, e_chain, e_and, e_or, e_not, e_ite, e_neg, e_idx, e_slc, e_rev, e_bi, e_isi, e_alloc, e_olen, e_oidx, e_oin, s_skip, s_seq, s_expr, s_set, s_par, s_own, s_app, s_setR, s_ife, s_ret, s_frz, s_raise, rb_ok, rs_nx, rs_rt, startE, finish, List.map_cons, List.map_nil, List.cons_append, List.nil_append, List.length_cons, List.length_nil, List.replicate, List.getElem?_cons_zero, List.getElem?_cons_succ, List.set_cons_zero, List.set_cons_succ, packOf, partE, condE, evT, rT, rI, rB, rD, flat, if_true, if_false, ↓reduceIte, Bool.false_eq_true, Nat.reduceAdd, Nat.reduceSub, bindT, bindAll, wipeE, bindOwn, ownOf, pBin, pCmp, Bool.not_true, Bool.not_false, Option.map_some, e1, eq_ii, hv0, hv10, hv20, e2, len_t, add_ii, e3, slc_t]
end
end SC.P

set_option Elab.async false
set_option linter.all false
set_option maxRecDepth 100000
/-! P3: the recognizers. -/
namespace SC.P
open PySem L2
/-! ### data of any form -/
mutual
def good (N : Nat) : D → Bool
  | .non => true | .bl _ => true | .int _ => true
  | .str x => decide (x.length ≤ 1000)
  | .tup xs => decide (xs.length ≤ N) && goodAll N xs
  | .lst xs => decide (xs.length ≤ N) && goodAll N xs
  | .dct _ _ => false | .ref _ => false | .scr _ => false
def goodAll (N : Nat) : List D → Bool
  | [] => true
  | x :: xs => good N x && goodAll N xs
end
theorem goodAll_iff {N : Nat} : ∀ {xs : List D}, goodAll N xs = true ↔ ∀ x ∈ xs, good N x = true
  | [] => by simp [goodAll]
  | x :: xs => by
    rw [goodAll, Bool.and_eq_true, goodAll_iff (xs := xs)]
    simp
theorem good_tup {N : Nat} {xs : List D} : good N (.tup xs) = true ↔ xs.length ≤ N ∧ ∀ x ∈ xs, good N x = true := by
  rw [good, Bool.and_eq_true, goodAll_iff, decide_eq_true_eq]
theorem good_lst {N : Nat} {xs : List D} : good N (.lst xs) = true ↔ xs.length ≤ N ∧ ∀ x ∈ xs, good N x = true := by
  rw [good, Bool.and_eq_true, goodAll_iff, decide_eq_true_eq]
def isTup : D → Bool | .tup _ => true | _ => false
def isBlD : D → Bool | .bl _ => true | _ => false
def isStr : D → Bool | .str _ => true | _ => false
def isIntD : D → Bool | .int _ => true | .bl _ => true | _ => false
theorem isi_tup {N : Nat} {d : D} (g : good N d = true) : pIsi d ["tuple"] = some (isTup d) := by
  cases d <;> first | rfl | (simp [good] at g)
theorem isi_str {N : Nat} {d : D} (g : good N d = true) : pIsi d ["str"] = some (isStr d) := by
  cases d <;> first | rfl | (simp [good] at g)
theorem isi_bool {N : Nat} {d : D} (g : good N d = true) : pIsi d ["bool"] = some (isBlD d) := by
  cases d <;> first | rfl | (simp [good] at g)
theorem isi_int {N : Nat} {d : D} (g : good N d = true) : pIsi d ["int"] = some (isIntD d) := by
  cases d <;> first | rfl | (simp [good] at g)
def inS (l : List String) (z : Str) : Bool := l.any fun w => Str.ofString w == z
theorem in_strs {μ : Store} {l : List String} {z : Str} : pIn μ (.str z) (.tup (strD l)) = some (inS l z) := by
  simp only [pIn, seqOf, strD, flat, List.all_map, inS, List.any_map, Bool.true_and]
  rw [if_pos]
  · rfl
  · simp [flat, Function.comp_def]
theorem in_strsL {μ : Store} {l : List Str} {z : Str} : pIn μ (.str z) (.lst (l.map D.str)) = some (l.any fun w => w == z) := by
  simp only [pIn, seqOf, flat, List.all_map, List.any_map, Bool.true_and]
  rw [if_pos]
  · rfl
  · simp [flat, Function.comp_def]
theorem eq_ss {μ : Store} {x y : Str} : pEq μ (.str x) (.str y) = some (x == y) := rfl
theorem g_TESTS : globD "TESTS" = some (.tup (strD testL)) := rfl
theorem g_DEEDS : globD "DEEDS" = some (.tup (strD deedL)) := rfl
theorem g_MOST : globD "MOST_CLAUSES" = some (.int 8) := rfl
theorem slc_s {μ : Store} {z : Str} {lo hi : Option Int} (h : z.length ≤ 1000) : pSlc μ (.str z) lo hi = some (.str (cutS z lo hi)) := by
  simp only [pSlc]
  rw [if_pos (Nat.le_trans h line1000)]
theorem all_map {μ : Store} {xs : List D} {p : D → Bool} : pBf .all μ [.lst (xs.map fun x => .bl (p x))] = some (.bl (xs.all p)) := by
  have key : ∀ xs : List D, allBl (xs.map fun x => .bl (p x)) = some (xs.map p) := fun xs => by
    induction xs with
    | nil => rfl
    | cons x xs ih => simp [allBl, ih]
  simp only [pBf, key, Option.map_some, List.all_map]
  rfl
theorem comp_map {f : D → Store → Res (Option D × Store)} {μ : Store} (o : D → D) (xs : List D) (h : ∀ x ∈ xs, f x μ = .ok (some (o x), μ)) : compLoop f [] xs μ = .ok (xs.map o, μ) := by
  rw [comp_pure (fun x => some (o x)) gok0 xs h]
  congr 2
  induction xs with
  | nil => rfl
  | cons x xs ih => simp
theorem ne_ones {μ : Store} {xs : List D} {p : D → Bool} : pEq μ (.lst (xs.filterMap fun x => if p x then none else some (.int 1))) (.lst []) = some (xs.all p) := by
  have hs : ∀ ys : List D, (∀ y ∈ ys, y = .int 1) → pEq μ (.lst ys) (.lst []) = some ys.isEmpty := fun ys hy => by
    have e : pyAll μ ys = List.replicate ys.length (PyData.int 1) := by
      induction ys with
      | nil => rfl
      | cons y ys ih =>
        rw [hy y (by simp)]
        simp [pyAll, py, ih fun y h => hy y (by simp [h]), List.replicate_succ]
    have c : ∀ n, PyData.canLayAll0 (List.replicate n (PyData.int 1)) = true := fun n => by
      induction n with
      | zero => rfl
      | succ n ih => simp [List.replicate_succ, PyData.canLayAll0, PyData.canLay0, ih]
    have dd : ∀ n, PyData.depthAll (List.replicate n (PyData.int 1)) ≤ 1 := fun n => by
      induction n with
      | zero => exact Nat.zero_le _
      | succ n ih => simp [List.replicate_succ, PyData.depthAll, PyData.depth]; omega
    have s1 : SeqAt.shaped (py μ (.lst ys)) = true := by
      unfold SeqAt.shaped
      simp [py, e, PyData.canLay0, c, PyData.depth]
      have := dd ys.length
      omega
    have s2 : SeqAt.shaped (py μ (.lst [])) = true := rfl
    unfold pEq
    simp only [flat, Bool.false_and, Bool.false_eq_true, if_false, s1, s2, Bool.and_self, if_true]
    congr 1
    cases ys with
    | nil => rfl
    | cons y ys => simp [py, pyAll, PyData.eqv, PyData.eqvAll]
  rw [hs]
  · congr 1
    induction xs with
    | nil => rfl
    | cons x xs ih =>
      cases e : p x <;> simp [e, ih]
  · intro y hy
    rw [List.mem_filterMap] at hy
    obtain ⟨x, _, e⟩ := hy
    split at e <;> cases e
    rfl
/-! ### what they tell -/
def isTest : D → Bool
  | .str z => inS testL z || (cutS z none (some 3) == Str.ofString "no " && inS testL (cutS z (some 3) none))
  | _ => false
def oneOf (l : List String) : D → Bool
  | .str z => inS l z
  | _ => false
def isClause2 (a y : D) : Bool := match a with
  | .tup ts => decide ((ts.length : Int) ≤ 3) && (ts.all isTest && oneOf deedL y)
  | _ => false
def isClause : D → Bool
  | .tup [a, y] => isClause2 a y
  | _ => false
def isRule : D → Bool
  | .tup cs => decide ((cs.length : Int) ≤ 8) && cs.all isClause
  | _ => false
def isRow : D → Bool
  | .tup xs => ((xs.length : Int) == 3) && xs.all isBlD
  | _ => false
def within (lo hi : Int) : D → Bool
  | .int i => decide (lo ≤ i) && decide (i ≤ hi)
  | _ => false
def isStand2 (m : Int) (a y : D) : Bool := match a with
  | .tup rs => decide ((rs.length : Int) ≤ m) && (rs.all isRow && within (-1) (rs.length - 1) y)
  | _ => false
def isStand (m : Int) : D → Bool
  | .tup [a, y] => isStand2 m a y
  | _ => false
theorem two_or {xs : List D} : (∃ a b, xs = [a, b]) ∨ ((xs.length : Int) == 2) = false := by
  match xs with
  | [] => exact .inr rfl
  | [_] => exact .inr rfl
  | [a, b] => exact .inl ⟨a, b, rfl⟩
  | _ :: _ :: _ :: _ => right; simp; omega
theorem isClause_no {xs : List D} (h : ((xs.length : Int) == 2) = false) : isClause (.tup xs) = false := by
  match xs, h with
  | [], _ => rfl
  | [_], _ => rfl
  | _ :: _ :: _ :: _, _ => rfl
theorem isStand_no {m : Int} {xs : List D} (h : ((xs.length : Int) == 2) = false) : isStand m (.tup xs) = false := by
  match xs, h with
  | [], _ => rfl
  | [_], _ => rfl
  | _ :: _ :: _ :: _, _ => rfl
theorem src_tup {μ : Store} {xs : List D} : pSrc .plain μ (packOf (.tup [.tup xs])) = some ([], xs) := rfl
theorem src_lst {μ : Store} {xs : List D} : pSrc .plain μ (packOf (.tup [.lst xs])) = some ([], xs) := rfl
theorem two_eq : (((0 + 1 + 1 : Nat) : Int) == 2) = true := rfl
theorem atI0 {a b : D} : atI [a, b] 0 = some a := rfl
theorem atI1 {a b : D} : atI [a, b] 1 = some b := rfl
section
variable {T : Tbl} (h : T0sub T) {k N : Nat} {μ : Store} {d : D}
include h
theorem is_one_of {l : List String} (g : good N d = true) : callN T (k + 1) "is_one_of" [d, .tup (strD l)] μ = .ok (.bl (oneOf l d), μ) := by
  rw [call_eq (t_is_one_of h) rfl]
  unfold d_is_one_of
  cases d <;> first | (simp [good] at g; done) | (simp (config := {decide := false}) only [e_var, e_k, e_glob, e_nil, e_cons, e_tup, e_lst, e_call, e_bin, e_cmp, e_chain, e_and, e_or, e_not, e_ite, e_neg, e_idx, e_slc, e_rev, e_bi, e_isi, e_alloc, e_olen, e_oidx, e_oin, s_skip, s_seq, s_expr, s_set, s_par, s_own, s_app, s_setR, s_ife, s_ret, s_frz, s_raise, rb_ok, rs_nx, rs_rt, startE, finish, List.map_cons, List.map_nil, List.cons_append, List.nil_append, List.length_cons, List.length_nil, List.replicate, List.getElem?_cons_zero, List.getElem?_cons_succ, List.set_cons_zero, List.set_cons_succ, packOf, partE, condE, evT, rT, rI, rB, rD, flat, if_true, if_false, ↓reduceIte, Bool.false_eq_true, Nat.reduceAdd, Nat.reduceSub, bindT, bindAll, wipeE, bindOwn, ownOf, pBin, pCmp, Bool.not_true, Bool.not_false, Option.map_some, isi_str g, isStr]; done) | (simp (config := {decide := false}) only [e_var, e_k, e_glob, e_nil, e_cons, e_tup, e_lst, e_call, e_bin, e_cmp, e_chain, e_and, e_or, e_not, e_ite, e_neg, e_idx, e_slc, e_rev, e_bi, e_isi, e_alloc, e_olen, e_oidx, e_oin, s_skip, s_seq, s_expr, s_set, s_par, s_own, s_app, s_setR, s_ife, s_ret, s_frz, s_raise, rb_ok, rs_nx, rs_rt, startE, finish, List.map_cons, List.map_nil, List.cons_append, List.nil_append, List.length_cons, List.length_nil, List.replicate, List.getElem?_cons_zero, List.getElem?_cons_succ, List.set_cons_zero, List.set_cons_succ, packOf, partE, condE, evT, rT, rI, rB, rD, flat, if_true, if_false, ↓reduceIte, Bool.false_eq_true, Nat.reduceAdd, Nat.reduceSub, bindT, bindAll, wipeE, bindOwn, ownOf, pBin, pCmp, Bool.not_true, Bool.not_false, Option.map_some, isi_str g, isStr, in_strs]; rfl) | (simp (config := {decide := false}) only [e_var, e_k, e_glob, e_nil, e_cons, e_tup, e_lst, e_call, e_bin, e_cmp, e_chain, e_and, e_or, e_not, e_ite, e_neg, e_idx, e_slc, e_rev, e_bi, e_isi, e_alloc, e_olen, e_oidx, e_oin, s_skip, s_seq, s_expr, s_set, s_par, s_own, s_app, s_setR, s_ife, s_ret, s_frz, s_raise, rb_ok, rs_nx, rs_rt, startE, finish, List.map_cons, List.map_nil, List.cons_append, List.nil_append, List.length_cons, List.length_nil, List.replicate, List.getElem?_cons_zero, List.getElem?_cons_succ, List.set_cons_zero, List.set_cons_succ, packOf, partE, condE, evT, rT, rI, rB, rD, flat, if_true, if_false, ↓reduceIte, Bool.false_eq_true, Nat.reduceAdd, Nat.reduceSub, bindT, bindAll, wipeE, bindOwn, ownOf, pBin, pCmp, Bool.not_true, Bool.not_false, Option.map_some, isi_str g, isStr]; rfl)
theorem is_test (g : good N d = true) : callN T (k + 1) "is_test" [d] μ = .ok (.bl (isTest d), μ) := by
  rw [call_eq (t_is_test h) rfl]
  unfold d_is_test
  cases d with
  | str z =>
    have hz : z.length ≤ 1000 := by simpa [good] using g
    cases e1 : inS testL z with
    | true => simp (config := {decide := false}) only [e_var, e_k, e_glob, e_nil, e_cons, e_tup, e_lst, e_call, e_bin, e_cmp, e_chain, e_and, e_or, e_not, e_ite, e_neg, e_idx, e_slc, e_rev, e_bi, e_isi, e_alloc, e_olen, e_oidx, e_oin, s_skip, s_seq, s_expr, s_set, s_par, s_own, s_app, s_setR, s_ife, s_ret, s_frz, s_raise, rb_ok, rs_nx, rs_rt, startE, finish, List.map_cons, List.map_nil, List.cons_append, List.nil_append, List.length_cons, List.length_nil, List.replicate, List.getElem?_cons_zero, List.getElem?_cons_succ, List.set_cons_zero, List.set_cons_succ, packOf, partE, condE, evT, rT, rI, rB, rD, flat, if_true, if_false, ↓reduceIte, Bool.false_eq_true, Nat.reduceAdd, Nat.reduceSub, bindT, bindAll, wipeE, bindOwn, ownOf, pBin, pCmp, Bool.not_true, Bool.not_false, Option.map_some, isi_str g, isStr, in_strs, g_TESTS, e1, isTest, Bool.true_or]
    | false =>
      cases e2 : (cutS z none (some 3) == Str.ofString "no ") with
      | true => simp (config := {decide := false}) only [e_var, e_k, e_glob, e_nil, e_cons, e_tup, e_lst, e_call, e_bin, e_cmp, e_chain, e_and, e_or, e_not, e_ite, e_neg, e_idx, e_slc, e_rev, e_bi, e_isi, e_alloc, e_olen, e_oidx, e_oin, s_skip, s_seq, s_expr, s_set, s_par, s_own, s_app, s_setR, s_ife, s_ret, s_frz, s_raise, rb_ok, rs_nx, rs_rt, startE, finish, List.map_cons, List.map_nil, List.cons_append, List.nil_append, List.length_cons, List.length_nil, List.replicate, List.getElem?_cons_zero, List.getElem?_cons_succ, List.set_cons_zero, List.set_cons_succ, packOf, partE, condE, evT, rT, rI, rB, rD, flat, if_true, if_false, ↓reduceIte, Bool.false_eq_true, Nat.reduceAdd, Nat.reduceSub, bindT, bindAll, wipeE, bindOwn, ownOf, pBin, pCmp, Bool.not_true, Bool.not_false, Option.map_some, isi_str g, isStr, in_strs, g_TESTS, e1, isTest, Bool.false_or, slc_s hz, eq_ss, e2, Bool.true_and]
      | false => simp (config := {decide := false}) only [e_var, e_k, e_glob, e_nil, e_cons, e_tup, e_lst, e_call, e_bin, e_cmp, e_chain, e_and, e_or, e_not, e_ite, e_neg, e_idx, e_slc, e_rev, e_bi, e_isi, e_alloc, e_olen, e_oidx, e_oin, s_skip, s_seq, s_expr, s_set, s_par, s_own, s_app, s_setR, s_ife, s_ret, s_frz, s_raise, rb_ok, rs_nx, rs_rt, startE, finish, List.map_cons, List.map_nil, List.cons_append, List.nil_append, List.length_cons, List.length_nil, List.replicate, List.getElem?_cons_zero, List.getElem?_cons_succ, List.set_cons_zero, List.set_cons_succ, packOf, partE, condE, evT, rT, rI, rB, rD, flat, if_true, if_false, ↓reduceIte, Bool.false_eq_true, Nat.reduceAdd, Nat.reduceSub, bindT, bindAll, wipeE, bindOwn, ownOf, pBin, pCmp, Bool.not_true, Bool.not_false, Option.map_some, isi_str g, isStr, in_strs, g_TESTS, e1, isTest, Bool.false_or, slc_s hz, eq_ss, e2, Bool.false_and]
  | _ => first | (simp [good] at g; done) | (simp (config := {decide := false}) only [e_var, e_k, e_glob, e_nil, e_cons, e_tup, e_lst, e_call, e_bin, e_cmp, e_chain, e_and, e_or, e_not, e_ite, e_neg, e_idx, e_slc, e_rev, e_bi, e_isi, e_alloc, e_olen, e_oidx, e_oin, s_skip, s_seq, s_expr, s_set, s_par, s_own, s_app, s_setR, s_ife, s_ret, s_frz, s_raise, rb_ok, rs_nx, rs_rt, startE, finish, List.map_cons, List.map_nil, List.cons_append, List.nil_append, List.length_cons, List.length_nil, List.replicate, List.getElem?_cons_zero, List.getElem?_cons_succ, List.set_cons_zero, List.set_cons_succ, packOf, partE, condE, evT, rT, rI, rB, rD, flat, if_true, if_false, ↓reduceIte, Bool.false_eq_true, Nat.reduceAdd, Nat.reduceSub, bindT, bindAll, wipeE, bindOwn, ownOf, pBin, pCmp, Bool.not_true, Bool.not_false, Option.map_some, isi_str g, isStr]; rfl)
theorem is_clause (g : good N d = true) : callN T (k + 2) "is_clause" [d] μ = .ok (.bl (isClause d), μ) := by
  rw [call_eq (t_is_clause h) rfl]
  unfold d_is_clause
  cases d with
  | tup xs =>
    rcases two_or (xs := xs) with ⟨a, b, rfl⟩ | h2
    · have g2 := (good_tup.mp g).2
      have ga := g2 a (by simp)
      have gb := g2 b (by simp)
      cases a with
      | tup ts =>
        have gt := (good_tup.mp ga).2
        have hc := ev_comp (Φ := callN T (k + 1)) (own := [1]) (tg := [1]) (kd := .plain) (src := .cons (.idx (.var 0) (.k (.int 0))) .nil) (cnd := .nil) (elt := .call "is_test" (.cons (.var 1) .nil))
          (δ := [.val (.tup [.tup ts, b]), .no]) (μ := μ) (μ0 := μ) (d := .tup [.tup ts]) (by simp (config := {decide := false}) only [e_var, e_k, e_glob, e_nil, e_cons, e_tup, e_lst, e_call, e_bin, e_cmp, e_chain, e_and, e_or, e_not, e_ite, e_neg, e_idx, e_slc, e_rev, e_bi, e_isi, e_alloc, e_olen, e_oidx, e_oin, s_skip, s_seq, s_expr, s_set, s_par, s_own, s_app, s_setR, s_ife, s_ret, s_frz, s_raise, rb_ok, rs_nx, rs_rt, startE, finish, List.map_cons, List.map_nil, List.cons_append, List.nil_append, List.length_cons, List.length_nil, List.replicate, List.getElem?_cons_zero, List.getElem?_cons_succ, List.set_cons_zero, List.set_cons_succ, packOf, partE, condE, evT, rT, rI, rB, rD, flat, if_true, if_false, ↓reduceIte, Bool.false_eq_true, Nat.reduceAdd, Nat.reduceSub, bindT, bindAll, wipeE, bindOwn, ownOf, pBin, pCmp, Bool.not_true, Bool.not_false, Option.map_some, pIdx_tup, atI0]) src_tup (comp_map (fun t => .bl (isTest t)) ts fun t ht => by
            unfold tf
            simp (config := {decide := false}) only [e_var, e_k, e_glob, e_nil, e_cons, e_tup, e_lst, e_call, e_bin, e_cmp, e_chain, e_and, e_or, e_not, e_ite, e_neg, e_idx, e_slc, e_rev, e_bi, e_isi, e_alloc, e_olen, e_oidx, e_oin, s_skip, s_seq, s_expr, s_set, s_par, s_own, s_app, s_setR, s_ife, s_ret, s_frz, s_raise, rb_ok, rs_nx, rs_rt, startE, finish, List.map_cons, List.map_nil, List.cons_append, List.nil_append, List.length_cons, List.length_nil, List.replicate, List.getElem?_cons_zero, List.getElem?_cons_succ, List.set_cons_zero, List.set_cons_succ, packOf, partE, condE, evT, rT, rI, rB, rD, flat, if_true, if_false, ↓reduceIte, Bool.false_eq_true, Nat.reduceAdd, Nat.reduceSub, bindT, bindAll, wipeE, bindOwn, ownOf, pBin, pCmp, Bool.not_true, Bool.not_false, Option.map_some, is_test h (gt t ht)])
        cases e1 : decide ((ts.length : Int) ≤ 3) <;> cases e2 : ts.all isTest <;> simp (config := {decide := false}) only [e_var, e_k, e_glob, e_nil, e_cons, e_tup, e_lst, e_call, e_bin, e_cmp, e_chain, e_and, e_or, e_not, e_ite, e_neg, e_idx, e_slc, e_rev, e_bi, e_isi, e_alloc, e_olen, e_oidx, e_oin, s_skip, s_seq, s_expr, s_set, s_par, s_own, s_app, s_setR, s_ife, s_ret, s_frz, s_raise, rb_ok, rs_nx, rs_rt, startE, finish, List.map_cons, List.map_nil, List.cons_append, List.nil_append, List.length_cons, List.length_nil, List.replicate, List.getElem?_cons_zero, List.getElem?_cons_succ, List.set_cons_zero, List.set_cons_succ, packOf, partE, condE, evT, rT, rI, rB, rD, flat, if_true, if_false, ↓reduceIte, Bool.false_eq_true, Nat.reduceAdd, Nat.reduceSub, bindT, bindAll, wipeE, bindOwn, ownOf, pBin, pCmp, Bool.not_true, Bool.not_false, Option.map_some, isi_tup g, isTup, len_t, eq_ii, pIdx_tup, atI0, atI1, isi_tup ga, e1, hc, all_map, e2, g_DEEDS, is_one_of h gb, isClause, isClause2, Bool.false_and, Bool.true_and, two_eq]
      | _ => first | (simp [good] at ga; done) | (simp (config := {decide := false}) only [e_var, e_k, e_glob, e_nil, e_cons, e_tup, e_lst, e_call, e_bin, e_cmp, e_chain, e_and, e_or, e_not, e_ite, e_neg, e_idx, e_slc, e_rev, e_bi, e_isi, e_alloc, e_olen, e_oidx, e_oin, s_skip, s_seq, s_expr, s_set, s_par, s_own, s_app, s_setR, s_ife, s_ret, s_frz, s_raise, rb_ok, rs_nx, rs_rt, startE, finish, List.map_cons, List.map_nil, List.cons_append, List.nil_append, List.length_cons, List.length_nil, List.replicate, List.getElem?_cons_zero, List.getElem?_cons_succ, List.set_cons_zero, List.set_cons_succ, packOf, partE, condE, evT, rT, rI, rB, rD, flat, if_true, if_false, ↓reduceIte, Bool.false_eq_true, Nat.reduceAdd, Nat.reduceSub, bindT, bindAll, wipeE, bindOwn, ownOf, pBin, pCmp, Bool.not_true, Bool.not_false, Option.map_some, isi_tup g, isTup, len_t, eq_ii, pIdx_tup, atI0, isi_tup ga, isClause, isClause2, two_eq]; done)
    · simp (config := {decide := false}) only [e_var, e_k, e_glob, e_nil, e_cons, e_tup, e_lst, e_call, e_bin, e_cmp, e_chain, e_and, e_or, e_not, e_ite, e_neg, e_idx, e_slc, e_rev, e_bi, e_isi, e_alloc, e_olen, e_oidx, e_oin, s_skip, s_seq, s_expr, s_set, s_par, s_own, s_app, s_setR, s_ife, s_ret, s_frz, s_raise, rb_ok, rs_nx, rs_rt, startE, finish, List.map_cons, List.map_nil, List.cons_append, List.nil_append, List.length_cons, List.length_nil, List.replicate, List.getElem?_cons_zero, List.getElem?_cons_succ, List.set_cons_zero, List.set_cons_succ, packOf, partE, condE, evT, rT, rI, rB, rD, flat, if_true, if_false, ↓reduceIte, Bool.false_eq_true, Nat.reduceAdd, Nat.reduceSub, bindT, bindAll, wipeE, bindOwn, ownOf, pBin, pCmp, Bool.not_true, Bool.not_false, Option.map_some, isi_tup g, isTup, len_t, eq_ii, h2, isClause_no h2]
  | _ => first | (simp [good] at g; done) | (simp (config := {decide := false}) only [e_var, e_k, e_glob, e_nil, e_cons, e_tup, e_lst, e_call, e_bin, e_cmp, e_chain, e_and, e_or, e_not, e_ite, e_neg, e_idx, e_slc, e_rev, e_bi, e_isi, e_alloc, e_olen, e_oidx, e_oin, s_skip, s_seq, s_expr, s_set, s_par, s_own, s_app, s_setR, s_ife, s_ret, s_frz, s_raise, rb_ok, rs_nx, rs_rt, startE, finish, List.map_cons, List.map_nil, List.cons_append, List.nil_append, List.length_cons, List.length_nil, List.replicate, List.getElem?_cons_zero, List.getElem?_cons_succ, List.set_cons_zero, List.set_cons_succ, packOf, partE, condE, evT, rT, rI, rB, rD, flat, if_true, if_false, ↓reduceIte, Bool.false_eq_true, Nat.reduceAdd, Nat.reduceSub, bindT, bindAll, wipeE, bindOwn, ownOf, pBin, pCmp, Bool.not_true, Bool.not_false, Option.map_some, isi_tup g, isTup]; rfl)
theorem is_rule (g : good N d = true) : callN T (k + 3) "is_rule" [d] μ = .ok (.bl (isRule d), μ) := by
  rw [call_eq (t_is_rule h) rfl]
  unfold d_is_rule
  cases d with
  | tup xs =>
    have gt := (good_tup.mp g).2
    have hc := ev_comp (Φ := callN T (k + 2)) (own := [1]) (tg := [1]) (kd := .plain) (src := .cons (.var 0) .nil) (cnd := .nil) (elt := .call "is_clause" (.cons (.var 1) .nil))
      (δ := [.val (.tup xs), .no]) (μ := μ) (μ0 := μ) (d := .tup [.tup xs]) (by simp (config := {decide := false}) only [e_var, e_k, e_glob, e_nil, e_cons, e_tup, e_lst, e_call, e_bin, e_cmp, e_chain, e_and, e_or, e_not, e_ite, e_neg, e_idx, e_slc, e_rev, e_bi, e_isi, e_alloc, e_olen, e_oidx, e_oin, s_skip, s_seq, s_expr, s_set, s_par, s_own, s_app, s_setR, s_ife, s_ret, s_frz, s_raise, rb_ok, rs_nx, rs_rt, startE, finish, List.map_cons, List.map_nil, List.cons_append, List.nil_append, List.length_cons, List.length_nil, List.replicate, List.getElem?_cons_zero, List.getElem?_cons_succ, List.set_cons_zero, List.set_cons_succ, packOf, partE, condE, evT, rT, rI, rB, rD, flat, if_true, if_false, ↓reduceIte, Bool.false_eq_true, Nat.reduceAdd, Nat.reduceSub, bindT, bindAll, wipeE, bindOwn, ownOf, pBin, pCmp, Bool.not_true, Bool.not_false, Option.map_some]) src_tup (comp_map (fun t => .bl (isClause t)) xs fun t ht => by
        unfold tf
        simp (config := {decide := false}) only [e_var, e_k, e_glob, e_nil, e_cons, e_tup, e_lst, e_call, e_bin, e_cmp, e_chain, e_and, e_or, e_not, e_ite, e_neg, e_idx, e_slc, e_rev, e_bi, e_isi, e_alloc, e_olen, e_oidx, e_oin, s_skip, s_seq, s_expr, s_set, s_par, s_own, s_app, s_setR, s_ife, s_ret, s_frz, s_raise, rb_ok, rs_nx, rs_rt, startE, finish, List.map_cons, List.map_nil, List.cons_append, List.nil_append, List.length_cons, List.length_nil, List.replicate, List.getElem?_cons_zero, List.getElem?_cons_succ, List.set_cons_zero, List.set_cons_succ, packOf, partE, condE, evT, rT, rI, rB, rD, flat, if_true, if_false, ↓reduceIte, Bool.false_eq_true, Nat.reduceAdd, Nat.reduceSub, bindT, bindAll, wipeE, bindOwn, ownOf, pBin, pCmp, Bool.not_true, Bool.not_false, Option.map_some, is_clause h (gt t ht)])
    cases e1 : decide ((xs.length : Int) ≤ 8) <;> simp (config := {decide := false}) only [e_var, e_k, e_glob, e_nil, e_cons, e_tup, e_lst, e_call, e_bin, e_cmp, e_chain, e_and, e_or, e_not, e_ite, e_neg, e_idx, e_slc, e_rev, e_bi, e_isi, e_alloc, e_olen, e_oidx, e_oin, s_skip, s_seq, s_expr, s_set, s_par, s_own, s_app, s_setR, s_ife, s_ret, s_frz, s_raise, rb_ok, rs_nx, rs_rt, startE, finish, List.map_cons, List.map_nil, List.cons_append, List.nil_append, List.length_cons, List.length_nil, List.replicate, List.getElem?_cons_zero, List.getElem?_cons_succ, List.set_cons_zero, List.set_cons_succ, packOf, partE, condE, evT, rT, rI, rB, rD, flat, if_true, if_false, ↓reduceIte, Bool.false_eq_true, Nat.reduceAdd, Nat.reduceSub, bindT, bindAll, wipeE, bindOwn, ownOf, pBin, pCmp, Bool.not_true, Bool.not_false, Option.map_some, isi_tup g, isTup, len_t, g_MOST, e1, hc, all_map, isRule, Bool.false_and, Bool.true_and]
  | _ => first | (simp [good] at g; done) | (simp (config := {decide := false}) only [e_var, e_k, e_glob, e_nil, e_cons, e_tup, e_lst, e_call, e_bin, e_cmp, e_chain, e_and, e_or, e_not, e_ite, e_neg, e_idx, e_slc, e_rev, e_bi, e_isi, e_alloc, e_olen, e_oidx, e_oin, s_skip, s_seq, s_expr, s_set, s_par, s_own, s_app, s_setR, s_ife, s_ret, s_frz, s_raise, rb_ok, rs_nx, rs_rt, startE, finish, List.map_cons, List.map_nil, List.cons_append, List.nil_append, List.length_cons, List.length_nil, List.replicate, List.getElem?_cons_zero, List.getElem?_cons_succ, List.set_cons_zero, List.set_cons_succ, packOf, partE, condE, evT, rT, rI, rB, rD, flat, if_true, if_false, ↓reduceIte, Bool.false_eq_true, Nat.reduceAdd, Nat.reduceSub, bindT, bindAll, wipeE, bindOwn, ownOf, pBin, pCmp, Bool.not_true, Bool.not_false, Option.map_some, isi_tup g, isTup]; rfl)
theorem is_within {lo hi : Int} (g : good N d = true) : callN T (k + 1) "is_within" [d, .int lo, .int hi] μ = .ok (.bl (within lo hi d), μ) := by
  rw [call_eq (t_is_within h) rfl]
  unfold d_is_within
  cases d with
  | int i => cases e1 : decide (lo ≤ i) <;> simp (config := {decide := false}) only [e_var, e_k, e_glob, e_nil, e_cons, e_tup, e_lst, e_call, e_bin, e_cmp, e_chain, e_and, e_or, e_not, e_ite, e_neg, e_idx, e_slc, e_rev, e_bi, e_isi, e_alloc, e_olen, e_oidx, e_oin, s_skip, s_seq, s_expr, s_set, s_par, s_own, s_app, s_setR, s_ife, s_ret, s_frz, s_raise, rb_ok, rs_nx, rs_rt, startE, finish, List.map_cons, List.map_nil, List.cons_append, List.nil_append, List.length_cons, List.length_nil, List.replicate, List.getElem?_cons_zero, List.getElem?_cons_succ, List.set_cons_zero, List.set_cons_succ, packOf, partE, condE, evT, rT, rI, rB, rD, flat, if_true, if_false, ↓reduceIte, Bool.false_eq_true, Nat.reduceAdd, Nat.reduceSub, bindT, bindAll, wipeE, bindOwn, ownOf, pBin, pCmp, Bool.not_true, Bool.not_false, Option.map_some, isi_int g, isi_bool g, isIntD, isBlD, e1, within, Bool.false_and, Bool.true_and]
  | _ => first | (simp [good] at g; done) | (simp (config := {decide := false}) only [e_var, e_k, e_glob, e_nil, e_cons, e_tup, e_lst, e_call, e_bin, e_cmp, e_chain, e_and, e_or, e_not, e_ite, e_neg, e_idx, e_slc, e_rev, e_bi, e_isi, e_alloc, e_olen, e_oidx, e_oin, s_skip, s_seq, s_expr, s_set, s_par, s_own, s_app, s_setR, s_ife, s_ret, s_frz, s_raise, rb_ok, rs_nx, rs_rt, startE, finish, List.map_cons, List.map_nil, List.cons_append, List.nil_append, List.length_cons, List.length_nil, List.replicate, List.getElem?_cons_zero, List.getElem?_cons_succ, List.set_cons_zero, List.set_cons_succ, packOf, partE, condE, evT, rT, rI, rB, rD, flat, if_true, if_false, ↓reduceIte, Bool.false_eq_true, Nat.reduceAdd, Nat.reduceSub, bindT, bindAll, wipeE, bindOwn, ownOf, pBin, pCmp, Bool.not_true, Bool.not_false, Option.map_some, isi_int g, isi_bool g, isIntD, isBlD]; rfl)
theorem look_at_most {m : Int} (h1 : 1 ≤ m) (h2 : m ≤ 3) : callN T (k + 2) "look_at_most" [.int m] μ = .ok (.non, μ) := by
  rw [call_eq (t_look_at_most h) rfl]
  unfold d_look_at_most
  simp (config := {decide := false}) only [e_var, e_k, e_glob, e_nil, e_cons, e_tup, e_lst, e_call, e_bin, e_cmp, e_chain, e_and, e_or, e_not, e_ite, e_neg, e_idx, e_slc, e_rev, e_bi, e_isi, e_alloc, e_olen, e_oidx, e_oin, s_skip, s_seq, s_expr, s_set, s_par, s_own, s_app, s_setR, s_ife, s_ret, s_frz, s_raise, rb_ok, rs_nx, rs_rt, startE, finish, List.map_cons, List.map_nil, List.cons_append, List.nil_append, List.length_cons, List.length_nil, List.replicate, List.getElem?_cons_zero, List.getElem?_cons_succ, List.set_cons_zero, List.set_cons_succ, packOf, partE, condE, evT, rT, rI, rB, rD, flat, if_true, if_false, ↓reduceIte, Bool.false_eq_true, Nat.reduceAdd, Nat.reduceSub, bindT, bindAll, wipeE, bindOwn, ownOf, pBin, pCmp, Bool.not_true, Bool.not_false, Option.map_some, is_within h (N := 0) (d := .int m) rfl, within, h1, h2, decide_true, Bool.and_self]
theorem is_row (g : good N d = true) : callN T (k + 1) "is_row" [d] μ = .ok (.bl (isRow d), μ) := by
  rw [call_eq (t_is_row h) rfl]
  unfold d_is_row
  cases d with
  | tup xs =>
    have gt := (good_tup.mp g).2
    have hc := ev_comp (Φ := callN T k) (own := [1]) (tg := [1]) (kd := .plain) (src := .cons (.var 0) .nil) (cnd := .nil) (elt := .isi (.var 1) ["bool"])
      (δ := [.val (.tup xs), .no]) (μ := μ) (μ0 := μ) (d := .tup [.tup xs]) (by simp (config := {decide := false}) only [e_var, e_k, e_glob, e_nil, e_cons, e_tup, e_lst, e_call, e_bin, e_cmp, e_chain, e_and, e_or, e_not, e_ite, e_neg, e_idx, e_slc, e_rev, e_bi, e_isi, e_alloc, e_olen, e_oidx, e_oin, s_skip, s_seq, s_expr, s_set, s_par, s_own, s_app, s_setR, s_ife, s_ret, s_frz, s_raise, rb_ok, rs_nx, rs_rt, startE, finish, List.map_cons, List.map_nil, List.cons_append, List.nil_append, List.length_cons, List.length_nil, List.replicate, List.getElem?_cons_zero, List.getElem?_cons_succ, List.set_cons_zero, List.set_cons_succ, packOf, partE, condE, evT, rT, rI, rB, rD, flat, if_true, if_false, ↓reduceIte, Bool.false_eq_true, Nat.reduceAdd, Nat.reduceSub, bindT, bindAll, wipeE, bindOwn, ownOf, pBin, pCmp, Bool.not_true, Bool.not_false, Option.map_some]) src_tup (comp_map (fun t => .bl (isBlD t)) xs fun t ht => by
        unfold tf
        simp (config := {decide := false}) only [e_var, e_k, e_glob, e_nil, e_cons, e_tup, e_lst, e_call, e_bin, e_cmp, e_chain, e_and, e_or, e_not, e_ite, e_neg, e_idx, e_slc, e_rev, e_bi, e_isi, e_alloc, e_olen, e_oidx, e_oin, s_skip, s_seq, s_expr, s_set, s_par, s_own, s_app, s_setR, s_ife, s_ret, s_frz, s_raise, rb_ok, rs_nx, rs_rt, startE, finish, List.map_cons, List.map_nil, List.cons_append, List.nil_append, List.length_cons, List.length_nil, List.replicate, List.getElem?_cons_zero, List.getElem?_cons_succ, List.set_cons_zero, List.set_cons_succ, packOf, partE, condE, evT, rT, rI, rB, rD, flat, if_true, if_false, ↓reduceIte, Bool.false_eq_true, Nat.reduceAdd, Nat.reduceSub, bindT, bindAll, wipeE, bindOwn, ownOf, pBin, pCmp, Bool.not_true, Bool.not_false, Option.map_some, isi_bool (gt t ht)])
    cases e1 : ((xs.length : Int) == 3) <;> simp (config := {decide := false}) only [e_var, e_k, e_glob, e_nil, e_cons, e_tup, e_lst, e_call, e_bin, e_cmp, e_chain, e_and, e_or, e_not, e_ite, e_neg, e_idx, e_slc, e_rev, e_bi, e_isi, e_alloc, e_olen, e_oidx, e_oin, s_skip, s_seq, s_expr, s_set, s_par, s_own, s_app, s_setR, s_ife, s_ret, s_frz, s_raise, rb_ok, rs_nx, rs_rt, startE, finish, List.map_cons, List.map_nil, List.cons_append, List.nil_append, List.length_cons, List.length_nil, List.replicate, List.getElem?_cons_zero, List.getElem?_cons_succ, List.set_cons_zero, List.set_cons_succ, packOf, partE, condE, evT, rT, rI, rB, rD, flat, if_true, if_false, ↓reduceIte, Bool.false_eq_true, Nat.reduceAdd, Nat.reduceSub, bindT, bindAll, wipeE, bindOwn, ownOf, pBin, pCmp, Bool.not_true, Bool.not_false, Option.map_some, isi_tup g, isTup, len_t, eq_ii, e1, hc, all_map, isRow, Bool.false_and, Bool.true_and]
  | _ => first | (simp [good] at g; done) | (simp (config := {decide := false}) only [e_var, e_k, e_glob, e_nil, e_cons, e_tup, e_lst, e_call, e_bin, e_cmp, e_chain, e_and, e_or, e_not, e_ite, e_neg, e_idx, e_slc, e_rev, e_bi, e_isi, e_alloc, e_olen, e_oidx, e_oin, s_skip, s_seq, s_expr, s_set, s_par, s_own, s_app, s_setR, s_ife, s_ret, s_frz, s_raise, rb_ok, rs_nx, rs_rt, startE, finish, List.map_cons, List.map_nil, List.cons_append, List.nil_append, List.length_cons, List.length_nil, List.replicate, List.getElem?_cons_zero, List.getElem?_cons_succ, List.set_cons_zero, List.set_cons_succ, packOf, partE, condE, evT, rT, rI, rB, rD, flat, if_true, if_false, ↓reduceIte, Bool.false_eq_true, Nat.reduceAdd, Nat.reduceSub, bindT, bindAll, wipeE, bindOwn, ownOf, pBin, pCmp, Bool.not_true, Bool.not_false, Option.map_some, isi_tup g, isTup]; rfl)
theorem fits {m : Int} (g : good N d = true) : callN T (k + 2) "fits" [.int m, d] μ = .ok (.bl (isStand m d), μ) := by
  rw [call_eq (t_fits h) rfl]
  unfold d_fits
  cases d with
  | tup xs =>
    rcases two_or (xs := xs) with ⟨a, b, rfl⟩ | h2
    · have g2 := (good_tup.mp g).2
      have ga := g2 a (by simp)
      have gb := g2 b (by simp)
      cases a with
      | tup ts =>
        have gt := (good_tup.mp ga).2
        have hc := ev_comp (Φ := callN T (k + 1)) (own := [2]) (tg := [2]) (kd := .plain) (src := .cons (.idx (.var 1) (.k (.int 0))) .nil) (cnd := .nil) (elt := .call "is_row" (.cons (.var 2) .nil))
          (δ := [.val (.int m), .val (.tup [.tup ts, b]), .no]) (μ := μ) (μ0 := μ) (d := .tup [.tup ts]) (by simp (config := {decide := false}) only [e_var, e_k, e_glob, e_nil, e_cons, e_tup, e_lst, e_call, e_bin, e_cmp, e_chain, e_and, e_or, e_not, e_ite, e_neg, e_idx, e_slc, e_rev, e_bi, e_isi, e_alloc, e_olen, e_oidx, e_oin, s_skip, s_seq, s_expr, s_set, s_par, s_own, s_app, s_setR, s_ife, s_ret, s_frz, s_raise, rb_ok, rs_nx, rs_rt, startE, finish, List.map_cons, List.map_nil, List.cons_append, List.nil_append, List.length_cons, List.length_nil, List.replicate, List.getElem?_cons_zero, List.getElem?_cons_succ, List.set_cons_zero, List.set_cons_succ, packOf, partE, condE, evT, rT, rI, rB, rD, flat, if_true, if_false, ↓reduceIte, Bool.false_eq_true, Nat.reduceAdd, Nat.reduceSub, bindT, bindAll, wipeE, bindOwn, ownOf, pBin, pCmp, Bool.not_true, Bool.not_false, Option.map_some, pIdx_tup, atI0]) src_tup (comp_map (fun t => .bl (isRow t)) ts fun t ht => by
            unfold tf
            simp (config := {decide := false}) only [e_var, e_k, e_glob, e_nil, e_cons, e_tup, e_lst, e_call, e_bin, e_cmp, e_chain, e_and, e_or, e_not, e_ite, e_neg, e_idx, e_slc, e_rev, e_bi, e_isi, e_alloc, e_olen, e_oidx, e_oin, s_skip, s_seq, s_expr, s_set, s_par, s_own, s_app, s_setR, s_ife, s_ret, s_frz, s_raise, rb_ok, rs_nx, rs_rt, startE, finish, List.map_cons, List.map_nil, List.cons_append, List.nil_append, List.length_cons, List.length_nil, List.replicate, List.getElem?_cons_zero, List.getElem?_cons_succ, List.set_cons_zero, List.set_cons_succ, packOf, partE, condE, evT, rT, rI, rB, rD, flat, if_true, if_false, ↓reduceIte, Bool.false_eq_true, Nat.reduceAdd, Nat.reduceSub, bindT, bindAll, wipeE, bindOwn, ownOf, pBin, pCmp, Bool.not_true, Bool.not_false, Option.map_some, is_row h (gt t ht)])
        cases e1 : decide (m < (ts.length : Int)) with
        | true =>
          have e2 : decide ((ts.length : Int) ≤ m) = false := by simpa using e1
          simp (config := {decide := false}) only [e_var, e_k, e_glob, e_nil, e_cons, e_tup, e_lst, e_call, e_bin, e_cmp, e_chain, e_and, e_or, e_not, e_ite, e_neg, e_idx, e_slc, e_rev, e_bi, e_isi, e_alloc, e_olen, e_oidx, e_oin, s_skip, s_seq, s_expr, s_set, s_par, s_own, s_app, s_setR, s_ife, s_ret, s_frz, s_raise, rb_ok, rs_nx, rs_rt, startE, finish, List.map_cons, List.map_nil, List.cons_append, List.nil_append, List.length_cons, List.length_nil, List.replicate, List.getElem?_cons_zero, List.getElem?_cons_succ, List.set_cons_zero, List.set_cons_succ, packOf, partE, condE, evT, rT, rI, rB, rD, flat, if_true, if_false, ↓reduceIte, Bool.false_eq_true, Nat.reduceAdd, Nat.reduceSub, bindT, bindAll, wipeE, bindOwn, ownOf, pBin, pCmp, Bool.not_true, Bool.not_false, Option.map_some, isi_tup g, isTup, len_t, eq_ii, pIdx_tup, atI0, atI1, isi_tup ga, e1, isStand, isStand2, e2, Bool.false_and, two_eq]
        | false =>
          have e2 : decide ((ts.length : Int) ≤ m) = true := by simpa using e1
          cases e3 : ts.all isRow <;> simp (config := {decide := false}) only [e_var, e_k, e_glob, e_nil, e_cons, e_tup, e_lst, e_call, e_bin, e_cmp, e_chain, e_and, e_or, e_not, e_ite, e_neg, e_idx, e_slc, e_rev, e_bi, e_isi, e_alloc, e_olen, e_oidx, e_oin, s_skip, s_seq, s_expr, s_set, s_par, s_own, s_app, s_setR, s_ife, s_ret, s_frz, s_raise, rb_ok, rs_nx, rs_rt, startE, finish, List.map_cons, List.map_nil, List.cons_append, List.nil_append, List.length_cons, List.length_nil, List.replicate, List.getElem?_cons_zero, List.getElem?_cons_succ, List.set_cons_zero, List.set_cons_succ, packOf, partE, condE, evT, rT, rI, rB, rD, flat, if_true, if_false, ↓reduceIte, Bool.false_eq_true, Nat.reduceAdd, Nat.reduceSub, bindT, bindAll, wipeE, bindOwn, ownOf, pBin, pCmp, Bool.not_true, Bool.not_false, Option.map_some, isi_tup g, isTup, len_t, eq_ii, pIdx_tup, atI0, atI1, isi_tup ga, e1, hc, all_map, e3, is_within h gb, isStand, isStand2, e2, Bool.false_and, Bool.true_and, two_eq]
      | _ => first | (simp [good] at ga; done) | (simp (config := {decide := false}) only [e_var, e_k, e_glob, e_nil, e_cons, e_tup, e_lst, e_call, e_bin, e_cmp, e_chain, e_and, e_or, e_not, e_ite, e_neg, e_idx, e_slc, e_rev, e_bi, e_isi, e_alloc, e_olen, e_oidx, e_oin, s_skip, s_seq, s_expr, s_set, s_par, s_own, s_app, s_setR, s_ife, s_ret, s_frz, s_raise, rb_ok, rs_nx, rs_rt, startE, finish, List.map_cons, List.map_nil, List.cons_append, List.nil_append, List.length_cons, List.length_nil, List.replicate, List.getElem?_cons_zero, List.getElem?_cons_succ, List.set_cons_zero, List.set_cons_succ, packOf, partE, condE, evT, rT, rI, rB, rD, flat, if_true, if_false, ↓reduceIte, Bool.false_eq_true, Nat.reduceAdd, Nat.reduceSub, bindT, bindAll, wipeE, bindOwn, ownOf, pBin, pCmp, Bool.not_true, Bool.not_false, Option.map_some, isi_tup g, isTup, len_t, eq_ii, pIdx_tup, atI0, isi_tup ga, isStand, isStand2, two_eq]; done)
    · simp (config := {decide := false}) only [e_var, e_k, e_glob, e_nil, e_cons, e_tup, e_lst, e_call, e_bin, e_cmp, e_chain, e_and, e_or, e_not, e_ite, e_neg, e_idx, e_slc, e_rev, e_bi, e_isi, e_alloc, e_olen, e_oidx, e_oin, s_skip, s_seq, s_expr, s_set, s_par, s_own, s_app, s_setR, s_ife, s_ret, s_frz, s_raise, rb_ok, rs_nx, rs_rt, startE, finish, List.map_cons, List.map_nil, List.cons_append, List.nil_append, List.length_cons, List.length_nil, List.replicate, List.getElem?_cons_zero, List.getElem?_cons_succ, List.set_cons_zero, List.set_cons_succ, packOf, partE, condE, evT, rT, rI, rB, rD, flat, if_true, if_false, ↓reduceIte, Bool.false_eq_true, Nat.reduceAdd, Nat.reduceSub, bindT, bindAll, wipeE, bindOwn, ownOf, pBin, pCmp, Bool.not_true, Bool.not_false, Option.map_some, isi_tup g, isTup, len_t, eq_ii, h2, isStand_no h2]
  | _ => first | (simp [good] at g; done) | (simp (config := {decide := false}) only [e_var, e_k, e_glob, e_nil, e_cons, e_tup, e_lst, e_call, e_bin, e_cmp, e_chain, e_and, e_or, e_not, e_ite, e_neg, e_idx, e_slc, e_rev, e_bi, e_isi, e_alloc, e_olen, e_oidx, e_oin, s_skip, s_seq, s_expr, s_set, s_par, s_own, s_app, s_setR, s_ife, s_ret, s_frz, s_raise, rb_ok, rs_nx, rs_rt, startE, finish, List.map_cons, List.map_nil, List.cons_append, List.nil_append, List.length_cons, List.length_nil, List.replicate, List.getElem?_cons_zero, List.getElem?_cons_succ, List.set_cons_zero, List.set_cons_succ, packOf, partE, condE, evT, rT, rI, rB, rD, flat, if_true, if_false, ↓reduceIte, Bool.false_eq_true, Nat.reduceAdd, Nat.reduceSub, bindT, bindAll, wipeE, bindOwn, ownOf, pBin, pCmp, Bool.not_true, Bool.not_false, Option.map_some, isi_tup g, isTup]; rfl)
theorem is_stand {m : Int} (h1 : 1 ≤ m) (h2 : m ≤ 3) (g : good N d = true) : callN T (k + 3) "is_stand" [.int m, d] μ = .ok (.bl (isStand m d), μ) := by
  rw [call_eq (t_is_stand h) rfl]
  unfold d_is_stand
  simp (config := {decide := false}) only [e_var, e_k, e_glob, e_nil, e_cons, e_tup, e_lst, e_call, e_bin, e_cmp, e_chain, e_and, e_or, e_not, e_ite, e_neg, e_idx, e_slc, e_rev, e_bi, e_isi, e_alloc, e_olen, e_oidx, e_oin, s_skip, s_seq, s_expr, s_set, s_par, s_own, s_app, s_setR, s_ife, s_ret, s_frz, s_raise, rb_ok, rs_nx, rs_rt, startE, finish, List.map_cons, List.map_nil, List.cons_append, List.nil_append, List.length_cons, List.length_nil, List.replicate, List.getElem?_cons_zero, List.getElem?_cons_succ, List.set_cons_zero, List.set_cons_succ, packOf, partE, condE, evT, rT, rI, rB, rD, flat, if_true, if_false, ↓reduceIte, Bool.false_eq_true, Nat.reduceAdd, Nat.reduceSub, bindT, bindAll, wipeE, bindOwn, ownOf, pBin, pCmp, Bool.not_true, Bool.not_false, Option.map_some, look_at_most h h1 h2, fits h g]
theorem same_bl {a b : Bool} : callN T (k + 1) "_law_same" [.bl a, .bl b] μ = .ok (.bl (a == b), μ) := by
  rw [call_eq (t__law_same h) rfl]
  unfold d__law_same
  have i1 : ∀ b : Bool, pIsi (.bl b) ["list"] = some false := fun _ => rfl
  have i2 : ∀ b : Bool, pIsi (.bl b) ["tuple"] = some false := fun _ => rfl
  have i3 : ∀ b : Bool, pIsi (.bl b) ["bool", "list", "tuple"] = some true := fun _ => rfl
  have i4 : ∀ b : Bool, pIsi (.bl b) ["bool"] = some true := fun _ => rfl
  have i5 : pEq μ (.bl a) (.bl b) = some (a == b) := rfl
  simp (config := {decide := false}) only [e_var, e_k, e_glob, e_nil, e_cons, e_tup, e_lst, e_call, e_bin, e_cmp, e_chain, e_and, e_or, e_not, e_ite, e_neg, e_idx, e_slc, e_rev, e_bi, e_isi, e_alloc, e_olen, e_oidx, e_oin, s_skip, s_seq, s_expr, s_set, s_par, s_own, s_app, s_setR, s_ife, s_ret, s_frz, s_raise, rb_ok, rs_nx, rs_rt, startE, finish, List.map_cons, List.map_nil, List.cons_append, List.nil_append, List.length_cons, List.length_nil, List.replicate, List.getElem?_cons_zero, List.getElem?_cons_succ, List.set_cons_zero, List.set_cons_succ, packOf, partE, condE, evT, rT, rI, rB, rD, flat, if_true, if_false, ↓reduceIte, Bool.false_eq_true, Nat.reduceAdd, Nat.reduceSub, bindT, bindAll, wipeE, bindOwn, ownOf, pBin, pCmp, Bool.not_true, Bool.not_false, Option.map_some, i1, i2, i3, i4, i5]
end
end SC.P

set_option Elab.async false
set_option linter.all false
set_option maxRecDepth 100000
/-! P01: the law k01, plain. -/
namespace SC.P
open PySem L2
theorem str_ext {x y : Str} (h : x.cps.toList = y.cps.toList) : x = y := by
  cases x; cases y
  congr 1
  exact Array.toList_inj.mp h
theorem app_list (x y : Str) : (x ++ y).cps.toList = x.cps.toList ++ y.cps.toList := by
  show (x.cps ++ y.cps).toList = _
  simp
theorem cut3a (z : Str) : (cutS z none (some 3)).cps.toList = z.cps.toList.take 3 := by
  unfold cutS
  have e : HT.sIx z.length z.length (some 3) = min 3 z.length := HT.sIx_nat _ _ 3
  simp only [e, HT.sIx_none, List.drop_zero, Nat.sub_zero]
  have hl : z.length = z.cps.toList.length := by simp [Str.length]
  rw [hl]
  show List.take (min 3 z.cps.toList.length) z.cps.toList = _
  by_cases h3 : 3 ≤ z.cps.toList.length
  · rw [Nat.min_eq_left h3]
  · rw [Nat.min_eq_right (by omega), List.take_of_length_le (Nat.le_refl _), List.take_of_length_le (by omega)]
theorem cut3b (z : Str) : (cutS z (some 3) none).cps.toList = z.cps.toList.drop 3 := by
  unfold cutS
  have e : HT.sIx z.length 0 (some 3) = min 3 z.length := HT.sIx_nat _ _ 3
  simp only [e, HT.sIx_none]
  have hl : z.length = z.cps.toList.length := by simp [Str.length]
  rw [hl]
  by_cases h3 : 3 ≤ z.cps.toList.length
  · rw [Nat.min_eq_left h3]
    rw [List.take_of_length_le (by simp)]
  · rw [Nat.min_eq_right (by omega)]
    simp
    simpa using Nat.le_of_lt (Nat.not_le.mp h3)
theorem no_cut (w z : Str) : ((Str.ofString "no " ++ w) == z) = ((cutS z none (some 3) == Str.ofString "no ") && (w == cutS z (some 3) none)) := by
  rw [Bool.eq_iff_iff]
  simp only [Bool.and_eq_true, beq_iff_eq]
  have l3 : (Str.ofString "no ").cps.toList.length = 3 := by decide +kernel
  constructor
  · rintro rfl
    refine ⟨str_ext ?_, str_ext ?_⟩
    · rw [cut3a, app_list, List.take_append_of_le_length (by omega), List.take_of_length_le (by omega)]
    · rw [cut3b, app_list, List.drop_append_of_le_length (by omega), List.drop_of_length_le (by omega)]
      rfl
  · rintro ⟨h1, rfl⟩
    apply str_ext
    rw [app_list, ← h1, cut3a, cut3b, List.take_append_drop]
def isTestL : D → Bool
  | .str z => wordL.any fun w => w == z
  | _ => false
theorem isTestL_eq (d : D) : isTestL d = isTest d := by
  cases d with
  | str z =>
    simp only [isTestL, isTest, wordL, List.any_append, List.any_map, inS]
    congr 1
    have e : ((fun w => w == z) ∘ fun w => Str.ofString "no " ++ Str.ofString w) = fun w => (cutS z none (some 3) == Str.ofString "no ") && (Str.ofString w == cutS z (some 3) none) := by
      funext w
      exact no_cut _ _
    rw [e]
    cases h : (cutS z none (some 3) == Str.ofString "no ") with
    | true => simp
    | false => simp
  | _ => rfl
theorem in_strs2 {μ : Store} {l : List String} {z : Str} : pIn μ (.str z) (.lst (strD l)) = some (inS l z) := by
  have := in_strsL (μ := μ) (l := l.map Str.ofString) (z := z)
  rw [List.map_map] at this
  rw [show strD l = l.map (D.str ∘ Str.ofString) from rfl, this, List.any_map]
  rfl
def noD : D → D
  | .str s => .str (Str.ofString "no " ++ s)
  | d => d
theorem words_eq {μ : Store} : pAdd μ (.lst (strD testL)) (.lst ((strD testL).map noD)) = some (.lst (wordL.map D.str)) := by
  have e : strD testL ++ (strD testL).map noD = wordL.map D.str := by simp [strD, wordL, noD, Function.comp_def]
  simp only [pAdd, lstOf]
  rw [if_pos, e]
  have := line1000
  simp [strD, testL]
  omega
/-- [1 for x in xs if not p(x)] -/
theorem comp_not {f : D → Store → Res (Option D × Store)} {μ : Store} (p : D → Bool) (xs : List D) (h : ∀ x ∈ xs, f x μ = .ok (if p x then none else some (.int 1), μ)) : compLoop f [] xs μ = .ok (xs.filterMap fun x => if p x then none else some (.int 1), μ) :=
  comp_pure (fun x => if p x then none else some (.int 1)) gok0 xs h
section
variable {T : Tbl} (h : T0sub T) {k N : Nat} {μ : Store} {d : D}
include h
theorem lis_clause (g : good N d = true) : callN T (k + 2) "_law_is_clause" [d] μ = .ok (.bl (isClause d), μ) := by
  rw [call_eq (t__law_is_clause h) rfl]
  unfold d__law_is_clause
  have hw := ev_comp (Φ := callN T (k + 1)) (own := [2]) (tg := [2]) (kd := .plain) (src := .cons (.call "_law_tests" .nil) .nil) (cnd := .nil) (elt := .bin .add (.k (.str (Str.ofString "no "))) (.var 2))
      (δ := [.val d, .no, .no, .no]) (μ := μ) (μ0 := μ) (d := .tup [.lst (strD testL)]) (by simp (config := {decide := false}) only [e_var, e_k, e_glob, e_nil, e_cons, e_tup, e_lst, e_call, e_bin, e_cmp, e_chain, e_and, e_or, e_not, e_ite, e_neg, e_idx, e_slc, e_rev, e_bi, e_isi, e_alloc, e_olen, e_oidx, e_oin, s_skip, s_seq, s_expr, s_set, s_par, s_own, s_app, s_setR, s_ife, s_ret, s_frz, s_raise, rb_ok, rs_nx, rs_rt, startE, finish, List.map_cons, List.map_nil, List.cons_append, List.nil_append, List.length_cons, List.length_nil, List.replicate, List.getElem?_cons_zero, List.getElem?_cons_succ, List.set_cons_zero, List.set_cons_succ, packOf, partE, condE, evT, rT, rI, rB, rD, flat, if_true, if_false, ↓reduceIte, Bool.false_eq_true, Nat.reduceAdd, Nat.reduceSub, bindT, bindAll, wipeE, bindOwn, ownOf, pBin, pCmp, Bool.not_true, Bool.not_false, Option.map_some, tests h]) src_lst (comp_map noD (strD testL) fun t ht => by
        obtain ⟨y, hy, rfl⟩ := strD_mem ht
        have := words_ok "no " (by simp) y hy
        have ha : pAdd μ (.str (Str.ofString "no ")) (.str (Str.ofString y)) = some (.str (Str.ofString "no " ++ Str.ofString y)) := by
          simp only [pAdd]
          rw [if_pos (Nat.le_trans this.2 line1000)]
        unfold tf
        simp (config := {decide := false}) only [e_var, e_k, e_glob, e_nil, e_cons, e_tup, e_lst, e_call, e_bin, e_cmp, e_chain, e_and, e_or, e_not, e_ite, e_neg, e_idx, e_slc, e_rev, e_bi, e_isi, e_alloc, e_olen, e_oidx, e_oin, s_skip, s_seq, s_expr, s_set, s_par, s_own, s_app, s_setR, s_ife, s_ret, s_frz, s_raise, rb_ok, rs_nx, rs_rt, startE, finish, List.map_cons, List.map_nil, List.cons_append, List.nil_append, List.length_cons, List.length_nil, List.replicate, List.getElem?_cons_zero, List.getElem?_cons_succ, List.set_cons_zero, List.set_cons_succ, packOf, partE, condE, evT, rT, rI, rB, rD, flat, if_true, if_false, ↓reduceIte, Bool.false_eq_true, Nat.reduceAdd, Nat.reduceSub, bindT, bindAll, wipeE, bindOwn, ownOf, pBin, pCmp, Bool.not_true, Bool.not_false, Option.map_some, ha, noD])
  cases d with
  | tup xs =>
    rcases two_or (xs := xs) with ⟨a, b, rfl⟩ | h2
    · have g2 := (good_tup.mp g).2
      have ga := g2 a (by simp)
      have gb := g2 b (by simp)
      cases a with
      | tup ts =>
        have gt := (good_tup.mp ga).2
        have hc := ev_comp (Φ := callN T (k + 1)) (own := [3]) (tg := [3]) (kd := .plain) (src := .cons (.idx (.var 0) (.k (.int 0))) .nil) (cnd := .or (.not (.isi (.var 3) ["str"])) (.cmp .notin (.var 3) (.var 1))) (elt := .k (.int 1))
          (δ := [.val (.tup [.tup ts, b]), .val (.lst (wordL.map D.str)), .no, .no]) (μ := μ) (μ0 := μ) (d := .tup [.tup ts]) (by simp (config := {decide := false}) only [e_var, e_k, e_glob, e_nil, e_cons, e_tup, e_lst, e_call, e_bin, e_cmp, e_chain, e_and, e_or, e_not, e_ite, e_neg, e_idx, e_slc, e_rev, e_bi, e_isi, e_alloc, e_olen, e_oidx, e_oin, s_skip, s_seq, s_expr, s_set, s_par, s_own, s_app, s_setR, s_ife, s_ret, s_frz, s_raise, rb_ok, rs_nx, rs_rt, startE, finish, List.map_cons, List.map_nil, List.cons_append, List.nil_append, List.length_cons, List.length_nil, List.replicate, List.getElem?_cons_zero, List.getElem?_cons_succ, List.set_cons_zero, List.set_cons_succ, packOf, partE, condE, evT, rT, rI, rB, rD, flat, if_true, if_false, ↓reduceIte, Bool.false_eq_true, Nat.reduceAdd, Nat.reduceSub, bindT, bindAll, wipeE, bindOwn, ownOf, pBin, pCmp, Bool.not_true, Bool.not_false, Option.map_some, pIdx_tup, atI0]) src_tup (comp_not isTestL ts fun t ht => by
            have g1 := gt t ht
            unfold tf
            cases t with
            | str z => cases e : (wordL.any fun w => w == z) <;> simp (config := {decide := false}) only [e_var, e_k, e_glob, e_nil, e_cons, e_tup, e_lst, e_call, e_bin, e_cmp, e_chain, e_and, e_or, e_not, e_ite, e_neg, e_idx, e_slc, e_rev, e_bi, e_isi, e_alloc, e_olen, e_oidx, e_oin, s_skip, s_seq, s_expr, s_set, s_par, s_own, s_app, s_setR, s_ife, s_ret, s_frz, s_raise, rb_ok, rs_nx, rs_rt, startE, finish, List.map_cons, List.map_nil, List.cons_append, List.nil_append, List.length_cons, List.length_nil, List.replicate, List.getElem?_cons_zero, List.getElem?_cons_succ, List.set_cons_zero, List.set_cons_succ, packOf, partE, condE, evT, rT, rI, rB, rD, flat, if_true, if_false, ↓reduceIte, Bool.false_eq_true, Nat.reduceAdd, Nat.reduceSub, bindT, bindAll, wipeE, bindOwn, ownOf, pBin, pCmp, Bool.not_true, Bool.not_false, Option.map_some, isi_str g1, isStr, in_strsL, isTestL, e]
            | _ => first | (simp [good] at g1; done) | (simp (config := {decide := false}) only [e_var, e_k, e_glob, e_nil, e_cons, e_tup, e_lst, e_call, e_bin, e_cmp, e_chain, e_and, e_or, e_not, e_ite, e_neg, e_idx, e_slc, e_rev, e_bi, e_isi, e_alloc, e_olen, e_oidx, e_oin, s_skip, s_seq, s_expr, s_set, s_par, s_own, s_app, s_setR, s_ife, s_ret, s_frz, s_raise, rb_ok, rs_nx, rs_rt, startE, finish, List.map_cons, List.map_nil, List.cons_append, List.nil_append, List.length_cons, List.length_nil, List.replicate, List.getElem?_cons_zero, List.getElem?_cons_succ, List.set_cons_zero, List.set_cons_succ, packOf, partE, condE, evT, rT, rI, rB, rD, flat, if_true, if_false, ↓reduceIte, Bool.false_eq_true, Nat.reduceAdd, Nat.reduceSub, bindT, bindAll, wipeE, bindOwn, ownOf, pBin, pCmp, Bool.not_true, Bool.not_false, Option.map_some, isi_str g1, isStr, isTestL]; done))
        have e0 : isTestL = isTest := funext isTestL_eq
        rw [e0] at hc
        have ho : ∀ z, b = .str z → inS deedL z = oneOf deedL b := fun z e => by rw [e]; rfl
        cases e1 : decide (3 < (ts.length : Int)) with
        | true =>
          have e1' : decide ((ts.length : Int) ≤ 3) = false := by simpa using e1
          simp (config := {decide := false}) only [e_var, e_k, e_glob, e_nil, e_cons, e_tup, e_lst, e_call, e_bin, e_cmp, e_chain, e_and, e_or, e_not, e_ite, e_neg, e_idx, e_slc, e_rev, e_bi, e_isi, e_alloc, e_olen, e_oidx, e_oin, s_skip, s_seq, s_expr, s_set, s_par, s_own, s_app, s_setR, s_ife, s_ret, s_frz, s_raise, rb_ok, rs_nx, rs_rt, startE, finish, List.map_cons, List.map_nil, List.cons_append, List.nil_append, List.length_cons, List.length_nil, List.replicate, List.getElem?_cons_zero, List.getElem?_cons_succ, List.set_cons_zero, List.set_cons_succ, packOf, partE, condE, evT, rT, rI, rB, rD, flat, if_true, if_false, ↓reduceIte, Bool.false_eq_true, Nat.reduceAdd, Nat.reduceSub, bindT, bindAll, wipeE, bindOwn, ownOf, pBin, pCmp, Bool.not_true, Bool.not_false, Option.map_some, isi_tup g, isTup, len_t, eq_ii, pIdx_tup, atI0, atI1, isi_tup ga, tests h, hw, words_eq, e1, isClause, isClause2, e1', Bool.false_and, two_eq]
        | false =>
          have e1' : decide ((ts.length : Int) ≤ 3) = true := by simpa using e1
          cases e2 : ts.all isTest with
          | false => simp (config := {decide := false}) only [e_var, e_k, e_glob, e_nil, e_cons, e_tup, e_lst, e_call, e_bin, e_cmp, e_chain, e_and, e_or, e_not, e_ite, e_neg, e_idx, e_slc, e_rev, e_bi, e_isi, e_alloc, e_olen, e_oidx, e_oin, s_skip, s_seq, s_expr, s_set, s_par, s_own, s_app, s_setR, s_ife, s_ret, s_frz, s_raise, rb_ok, rs_nx, rs_rt, startE, finish, List.map_cons, List.map_nil, List.cons_append, List.nil_append, List.length_cons, List.length_nil, List.replicate, List.getElem?_cons_zero, List.getElem?_cons_succ, List.set_cons_zero, List.set_cons_succ, packOf, partE, condE, evT, rT, rI, rB, rD, flat, if_true, if_false, ↓reduceIte, Bool.false_eq_true, Nat.reduceAdd, Nat.reduceSub, bindT, bindAll, wipeE, bindOwn, ownOf, pBin, pCmp, Bool.not_true, Bool.not_false, Option.map_some, isi_tup g, isTup, len_t, eq_ii, pIdx_tup, atI0, atI1, isi_tup ga, tests h, hw, words_eq, e1, hc, ne_ones, e2, isClause, isClause2, e1', Bool.false_and, Bool.true_and, two_eq]
          | true =>
            cases b with
            | str z => simp (config := {decide := false}) only [e_var, e_k, e_glob, e_nil, e_cons, e_tup, e_lst, e_call, e_bin, e_cmp, e_chain, e_and, e_or, e_not, e_ite, e_neg, e_idx, e_slc, e_rev, e_bi, e_isi, e_alloc, e_olen, e_oidx, e_oin, s_skip, s_seq, s_expr, s_set, s_par, s_own, s_app, s_setR, s_ife, s_ret, s_frz, s_raise, rb_ok, rs_nx, rs_rt, startE, finish, List.map_cons, List.map_nil, List.cons_append, List.nil_append, List.length_cons, List.length_nil, List.replicate, List.getElem?_cons_zero, List.getElem?_cons_succ, List.set_cons_zero, List.set_cons_succ, packOf, partE, condE, evT, rT, rI, rB, rD, flat, if_true, if_false, ↓reduceIte, Bool.false_eq_true, Nat.reduceAdd, Nat.reduceSub, bindT, bindAll, wipeE, bindOwn, ownOf, pBin, pCmp, Bool.not_true, Bool.not_false, Option.map_some, isi_tup g, isTup, len_t, eq_ii, pIdx_tup, atI0, atI1, isi_tup ga, tests h, hw, words_eq, e1, hc, ne_ones, e2, isi_str gb, isStr, deeds h, in_strs2, isClause, isClause2, e1', Bool.false_and, Bool.true_and, two_eq, oneOf]
            | _ => first | (simp [good] at gb; done) | (simp (config := {decide := false}) only [e_var, e_k, e_glob, e_nil, e_cons, e_tup, e_lst, e_call, e_bin, e_cmp, e_chain, e_and, e_or, e_not, e_ite, e_neg, e_idx, e_slc, e_rev, e_bi, e_isi, e_alloc, e_olen, e_oidx, e_oin, s_skip, s_seq, s_expr, s_set, s_par, s_own, s_app, s_setR, s_ife, s_ret, s_frz, s_raise, rb_ok, rs_nx, rs_rt, startE, finish, List.map_cons, List.map_nil, List.cons_append, List.nil_append, List.length_cons, List.length_nil, List.replicate, List.getElem?_cons_zero, List.getElem?_cons_succ, List.set_cons_zero, List.set_cons_succ, packOf, partE, condE, evT, rT, rI, rB, rD, flat, if_true, if_false, ↓reduceIte, Bool.false_eq_true, Nat.reduceAdd, Nat.reduceSub, bindT, bindAll, wipeE, bindOwn, ownOf, pBin, pCmp, Bool.not_true, Bool.not_false, Option.map_some, isi_tup g, isTup, len_t, eq_ii, pIdx_tup, atI0, atI1, isi_tup ga, tests h, hw, words_eq, e1, hc, ne_ones, e2, isi_str gb, isStr, isClause, isClause2, e1', Bool.false_and, Bool.true_and, two_eq, oneOf]; done)
      | _ => first | (simp [good] at ga; done) | (simp (config := {decide := false}) only [e_var, e_k, e_glob, e_nil, e_cons, e_tup, e_lst, e_call, e_bin, e_cmp, e_chain, e_and, e_or, e_not, e_ite, e_neg, e_idx, e_slc, e_rev, e_bi, e_isi, e_alloc, e_olen, e_oidx, e_oin, s_skip, s_seq, s_expr, s_set, s_par, s_own, s_app, s_setR, s_ife, s_ret, s_frz, s_raise, rb_ok, rs_nx, rs_rt, startE, finish, List.map_cons, List.map_nil, List.cons_append, List.nil_append, List.length_cons, List.length_nil, List.replicate, List.getElem?_cons_zero, List.getElem?_cons_succ, List.set_cons_zero, List.set_cons_succ, packOf, partE, condE, evT, rT, rI, rB, rD, flat, if_true, if_false, ↓reduceIte, Bool.false_eq_true, Nat.reduceAdd, Nat.reduceSub, bindT, bindAll, wipeE, bindOwn, ownOf, pBin, pCmp, Bool.not_true, Bool.not_false, Option.map_some, isi_tup g, isTup, len_t, eq_ii, pIdx_tup, atI0, isi_tup ga, tests h, hw, words_eq, isClause, isClause2, two_eq]; done)
    · simp (config := {decide := false}) only [e_var, e_k, e_glob, e_nil, e_cons, e_tup, e_lst, e_call, e_bin, e_cmp, e_chain, e_and, e_or, e_not, e_ite, e_neg, e_idx, e_slc, e_rev, e_bi, e_isi, e_alloc, e_olen, e_oidx, e_oin, s_skip, s_seq, s_expr, s_set, s_par, s_own, s_app, s_setR, s_ife, s_ret, s_frz, s_raise, rb_ok, rs_nx, rs_rt, startE, finish, List.map_cons, List.map_nil, List.cons_append, List.nil_append, List.length_cons, List.length_nil, List.replicate, List.getElem?_cons_zero, List.getElem?_cons_succ, List.set_cons_zero, List.set_cons_succ, packOf, partE, condE, evT, rT, rI, rB, rD, flat, if_true, if_false, ↓reduceIte, Bool.false_eq_true, Nat.reduceAdd, Nat.reduceSub, bindT, bindAll, wipeE, bindOwn, ownOf, pBin, pCmp, Bool.not_true, Bool.not_false, Option.map_some, isi_tup g, isTup, len_t, eq_ii, h2, isClause_no h2, tests h, hw, words_eq]
  | _ => first | (simp [good] at g; done) | (simp (config := {decide := false}) only [e_var, e_k, e_glob, e_nil, e_cons, e_tup, e_lst, e_call, e_bin, e_cmp, e_chain, e_and, e_or, e_not, e_ite, e_neg, e_idx, e_slc, e_rev, e_bi, e_isi, e_alloc, e_olen, e_oidx, e_oin, s_skip, s_seq, s_expr, s_set, s_par, s_own, s_app, s_setR, s_ife, s_ret, s_frz, s_raise, rb_ok, rs_nx, rs_rt, startE, finish, List.map_cons, List.map_nil, List.cons_append, List.nil_append, List.length_cons, List.length_nil, List.replicate, List.getElem?_cons_zero, List.getElem?_cons_succ, List.set_cons_zero, List.set_cons_succ, packOf, partE, condE, evT, rT, rI, rB, rD, flat, if_true, if_false, ↓reduceIte, Bool.false_eq_true, Nat.reduceAdd, Nat.reduceSub, bindT, bindAll, wipeE, bindOwn, ownOf, pBin, pCmp, Bool.not_true, Bool.not_false, Option.map_some, isi_tup g, isTup, tests h, hw, words_eq]; rfl)
theorem eq_ones {xs : List D} {p : D → Bool} : pEq μ (.lst (xs.filterMap fun x => if p x then none else some (.int 1))) (.lst []) = some (xs.all p) := ne_ones
theorem lis_rule (g : good N d = true) : callN T (k + 3) "_law_is_rule" [d] μ = .ok (.bl (isRule d), μ) := by
  rw [call_eq (t__law_is_rule h) rfl]
  unfold d__law_is_rule
  cases d with
  | tup xs =>
    have gt := (good_tup.mp g).2
    have hc := ev_comp (Φ := callN T (k + 2)) (own := [1]) (tg := [1]) (kd := .plain) (src := .cons (.var 0) .nil) (cnd := .not (.call "_law_is_clause" (.cons (.var 1) .nil))) (elt := .k (.int 1))
      (δ := [.val (.tup xs), .no]) (μ := μ) (μ0 := μ) (d := .tup [.tup xs]) (by simp (config := {decide := false}) only [e_var, e_k, e_glob, e_nil, e_cons, e_tup, e_lst, e_call, e_bin, e_cmp, e_chain, e_and, e_or, e_not, e_ite, e_neg, e_idx, e_slc, e_rev, e_bi, e_isi, e_alloc, e_olen, e_oidx, e_oin, s_skip, s_seq, s_expr, s_set, s_par, s_own, s_app, s_setR, s_ife, s_ret, s_frz, s_raise, rb_ok, rs_nx, rs_rt, startE, finish, List.map_cons, List.map_nil, List.cons_append, List.nil_append, List.length_cons, List.length_nil, List.replicate, List.getElem?_cons_zero, List.getElem?_cons_succ, List.set_cons_zero, List.set_cons_succ, packOf, partE, condE, evT, rT, rI, rB, rD, flat, if_true, if_false, ↓reduceIte, Bool.false_eq_true, Nat.reduceAdd, Nat.reduceSub, bindT, bindAll, wipeE, bindOwn, ownOf, pBin, pCmp, Bool.not_true, Bool.not_false, Option.map_some]) src_tup (comp_not isClause xs fun t ht => by
        unfold tf
        cases e : isClause t <;> simp (config := {decide := false}) only [e_var, e_k, e_glob, e_nil, e_cons, e_tup, e_lst, e_call, e_bin, e_cmp, e_chain, e_and, e_or, e_not, e_ite, e_neg, e_idx, e_slc, e_rev, e_bi, e_isi, e_alloc, e_olen, e_oidx, e_oin, s_skip, s_seq, s_expr, s_set, s_par, s_own, s_app, s_setR, s_ife, s_ret, s_frz, s_raise, rb_ok, rs_nx, rs_rt, startE, finish, List.map_cons, List.map_nil, List.cons_append, List.nil_append, List.length_cons, List.length_nil, List.replicate, List.getElem?_cons_zero, List.getElem?_cons_succ, List.set_cons_zero, List.set_cons_succ, packOf, partE, condE, evT, rT, rI, rB, rD, flat, if_true, if_false, ↓reduceIte, Bool.false_eq_true, Nat.reduceAdd, Nat.reduceSub, bindT, bindAll, wipeE, bindOwn, ownOf, pBin, pCmp, Bool.not_true, Bool.not_false, Option.map_some, lis_clause h (gt t ht), e])
    cases e1 : decide (8 < (xs.length : Int)) with
    | true =>
      have e2 : decide ((xs.length : Int) ≤ 8) = false := by simpa using e1
      simp (config := {decide := false}) only [e_var, e_k, e_glob, e_nil, e_cons, e_tup, e_lst, e_call, e_bin, e_cmp, e_chain, e_and, e_or, e_not, e_ite, e_neg, e_idx, e_slc, e_rev, e_bi, e_isi, e_alloc, e_olen, e_oidx, e_oin, s_skip, s_seq, s_expr, s_set, s_par, s_own, s_app, s_setR, s_ife, s_ret, s_frz, s_raise, rb_ok, rs_nx, rs_rt, startE, finish, List.map_cons, List.map_nil, List.cons_append, List.nil_append, List.length_cons, List.length_nil, List.replicate, List.getElem?_cons_zero, List.getElem?_cons_succ, List.set_cons_zero, List.set_cons_succ, packOf, partE, condE, evT, rT, rI, rB, rD, flat, if_true, if_false, ↓reduceIte, Bool.false_eq_true, Nat.reduceAdd, Nat.reduceSub, bindT, bindAll, wipeE, bindOwn, ownOf, pBin, pCmp, Bool.not_true, Bool.not_false, Option.map_some, isi_tup g, isTup, len_t, e1, isRule, e2, Bool.false_and]
    | false =>
      have e2 : decide ((xs.length : Int) ≤ 8) = true := by simpa using e1
      simp (config := {decide := false}) only [e_var, e_k, e_glob, e_nil, e_cons, e_tup, e_lst, e_call, e_bin, e_cmp, e_chain, e_and, e_or, e_not, e_ite, e_neg, e_idx, e_slc, e_rev, e_bi, e_isi, e_alloc, e_olen, e_oidx, e_oin, s_skip, s_seq, s_expr, s_set, s_par, s_own, s_app, s_setR, s_ife, s_ret, s_frz, s_raise, rb_ok, rs_nx, rs_rt, startE, finish, List.map_cons, List.map_nil, List.cons_append, List.nil_append, List.length_cons, List.length_nil, List.replicate, List.getElem?_cons_zero, List.getElem?_cons_succ, List.set_cons_zero, List.set_cons_succ, packOf, partE, condE, evT, rT, rI, rB, rD, flat, if_true, if_false, ↓reduceIte, Bool.false_eq_true, Nat.reduceAdd, Nat.reduceSub, bindT, bindAll, wipeE, bindOwn, ownOf, pBin, pCmp, Bool.not_true, Bool.not_false, Option.map_some, isi_tup g, isTup, len_t, e1, hc, ne_ones, isRule, e2, Bool.true_and]
  | _ => first | (simp [good] at g; done) | (simp (config := {decide := false}) only [e_var, e_k, e_glob, e_nil, e_cons, e_tup, e_lst, e_call, e_bin, e_cmp, e_chain, e_and, e_or, e_not, e_ite, e_neg, e_idx, e_slc, e_rev, e_bi, e_isi, e_alloc, e_olen, e_oidx, e_oin, s_skip, s_seq, s_expr, s_set, s_par, s_own, s_app, s_setR, s_ife, s_ret, s_frz, s_raise, rb_ok, rs_nx, rs_rt, startE, finish, List.map_cons, List.map_nil, List.cons_append, List.nil_append, List.length_cons, List.length_nil, List.replicate, List.getElem?_cons_zero, List.getElem?_cons_succ, List.set_cons_zero, List.set_cons_succ, packOf, partE, condE, evT, rT, rI, rB, rD, flat, if_true, if_false, ↓reduceIte, Bool.false_eq_true, Nat.reduceAdd, Nat.reduceSub, bindT, bindAll, wipeE, bindOwn, ownOf, pBin, pCmp, Bool.not_true, Bool.not_false, Option.map_some, isi_tup g, isTup]; rfl)
end
end SC.P

set_option Elab.async false
set_option linter.all false
set_option maxRecDepth 100000
/-! P01b: the law k01, plain: stands, odd values. -/
namespace SC.P
open PySem L2
theorem for_all {F : D → SC.Env → Store → RS} {μ : Store} {p : D → Bool} (S : SC.Env → Prop) : ∀ (xs : List D) (δ : SC.Env), S δ → (∀ x ∈ xs, ∀ δ, S δ → ∃ δ', S δ' ∧ F x δ μ = if p x then .ok (.nx, δ', μ) else .ok (.rt (.bl false), δ', μ)) →
    ∃ δ', S δ' ∧ forLoop F [] xs δ μ = if xs.all p then .ok (.nx, δ', μ) else .ok (.rt (.bl false), δ', μ)
  | [], δ, s, _ => ⟨δ, s, rfl⟩
  | x :: xs, δ, s, h => by
    obtain ⟨δ1, s1, e1⟩ := h x (by simp) δ s
    unfold forLoop
    rw [gok0, e1]
    cases hp : p x with
    | false => exact ⟨δ1, s1, by simp [hp]⟩
    | true =>
      obtain ⟨δ2, s2, e2⟩ := for_all S xs δ1 s1 fun y hy => h y (by simp [hy])
      exact ⟨δ2, s2, by simp [hp, e2]⟩
theorem cut_take {xs : List D} {j : Nat} : cut xs none (some (j : Int)) = xs.take j := by
  unfold cut
  rw [HT.sIx_nat, HT.sIx_none, List.drop_zero, Nat.sub_zero]
  by_cases h : j ≤ xs.length
  · rw [Nat.min_eq_left h]
  · rw [Nat.min_eq_right (by omega), List.take_of_length_le (Nat.le_refl _), List.take_of_length_le (by omega)]
theorem cut_drop {xs : List D} {j : Nat} : cut xs (some (j : Int)) none = xs.drop j := by
  unfold cut
  rw [HT.sIx_nat, HT.sIx_none]
  by_cases h : j ≤ xs.length
  · rw [Nat.min_eq_left h, List.take_of_length_le (by simp)]
  · rw [Nat.min_eq_right (by omega), List.drop_of_length_le (Nat.le_refl _), List.drop_of_length_le (by omega)]
    simp
theorem len_mid {xs : List D} {j : Nat} : (cut xs (some (j : Int)) (some ((j + 1 : Nat) : Int))).length ≤ 1 := by
  unfold cut
  rw [HT.sIx_nat, HT.sIx_nat, List.length_take, List.length_drop]
  omega
mutual
theorem good_mono {N M : Nat} (h : N ≤ M) : ∀ d : D, good N d = true → good M d = true
  | .non, _ => rfl | .bl _, _ => rfl | .int _, _ => rfl
  | .str x, g => g
  | .tup xs, g => by
    rw [good, Bool.and_eq_true, decide_eq_true_eq] at g ⊢
    exact ⟨by omega, goodAll_mono h xs g.2⟩
  | .lst xs, g => by
    rw [good, Bool.and_eq_true, decide_eq_true_eq] at g ⊢
    exact ⟨by omega, goodAll_mono h xs g.2⟩
  | .dct _ _, g => by simp [good] at g
  | .ref _, g => by simp [good] at g
  | .scr _, g => by simp [good] at g
theorem goodAll_mono {N M : Nat} (h : N ≤ M) : ∀ xs : List D, goodAll N xs = true → goodAll M xs = true
  | [], _ => rfl
  | x :: xs, g => by
    rw [goodAll, Bool.and_eq_true] at g ⊢
    exact ⟨good_mono h x g.1, goodAll_mono h xs g.2⟩
end
/-- tuples at most m deep -/
def lev : Nat → D → Bool
  | 0, .tup _ => false
  | m + 1, .tup xs => xs.all (lev m)
  | _, _ => true
section
variable {T : Tbl} (h : T0sub T) {k N : Nat} {μ : Store} {d : D}
include h
theorem lis_stand {m : Int} (g : good N d = true) : callN T (k + 1) "_law_is_stand" [.int m, d] μ = .ok (.bl (isStand m d), μ) := by
  rw [call_eq (t__law_is_stand h) rfl]
  unfold d__law_is_stand
  cases d with
  | tup xs =>
    rcases two_or (xs := xs) with ⟨a, b, rfl⟩ | h2
    · have g2 := (good_tup.mp g).2
      have ga := g2 a (by simp)
      have gb := g2 b (by simp)
      cases a with
      | tup ts =>
        have gt := (good_tup.mp ga).2
        cases e1 : decide (m < (ts.length : Int)) with
        | true =>
          have e2 : decide ((ts.length : Int) ≤ m) = false := by simpa using e1
          simp (config := {decide := false}) only [e_var, e_k, e_glob, e_nil, e_cons, e_tup, e_lst, e_call, e_bin, e_cmp, e_chain, e_and, e_or, e_not, e_ite, e_neg, e_idx, e_slc, e_rev, e_bi, e_isi, e_alloc, e_olen, e_oidx, e_oin, s_skip, s_seq, s_expr, s_set, s_par, s_own, s_app, s_setR, s_ife, s_ret, s_frz, s_raise, rb_ok, rs_nx, rs_rt, startE, finish, List.map_cons, List.map_nil, List.cons_append, List.nil_append, List.length_cons, List.length_nil, List.replicate, List.getElem?_cons_zero, List.getElem?_cons_succ, List.set_cons_zero, List.set_cons_succ, packOf, partE, condE, evT, rT, rI, rB, rD, flat, if_true, if_false, ↓reduceIte, Bool.false_eq_true, Nat.reduceAdd, Nat.reduceSub, bindT, bindAll, wipeE, bindOwn, ownOf, pBin, pCmp, Bool.not_true, Bool.not_false, Option.map_some, isi_tup g, isTup, len_t, eq_ii, pIdx_tup, atI0, atI1, isi_tup ga, e1, isStand, isStand2, e2, Bool.false_and, two_eq]
        | false =>
          have e2 : decide ((ts.length : Int) ≤ m) = true := by simpa using e1
          have hl := s_loop (Φ := callN T k) (tg := [2]) (kd := .plain) (src := .cons (.idx (.var 1) (.k (.int 0))) .nil) (body := .ife (.or (.not (.isi (.var 2) ["tuple"])) (.or (.cmp .ne (.bi .len (.cons (.var 2) .nil)) (.k (.int 3))) (.cmp .ne (.comp [4] [4] .plain (.cons (.var 2) .nil) (.not (.isi (.var 4) ["bool"])) (.k (.int 1))) (.lst .nil)))) (.ret (.k (.bl false))) .skip)
            (δ := [.val (.int m), .val (.tup [.tup ts, b]), .no, .no, .no]) (μ := μ) (μ0 := μ) (d := .tup [.tup ts]) (by simp (config := {decide := false}) only [e_var, e_k, e_glob, e_nil, e_cons, e_tup, e_lst, e_call, e_bin, e_cmp, e_chain, e_and, e_or, e_not, e_ite, e_neg, e_idx, e_slc, e_rev, e_bi, e_isi, e_alloc, e_olen, e_oidx, e_oin, s_skip, s_seq, s_expr, s_set, s_par, s_own, s_app, s_setR, s_ife, s_ret, s_frz, s_raise, rb_ok, rs_nx, rs_rt, startE, finish, List.map_cons, List.map_nil, List.cons_append, List.nil_append, List.length_cons, List.length_nil, List.replicate, List.getElem?_cons_zero, List.getElem?_cons_succ, List.set_cons_zero, List.set_cons_succ, packOf, partE, condE, evT, rT, rI, rB, rD, flat, if_true, if_false, ↓reduceIte, Bool.false_eq_true, Nat.reduceAdd, Nat.reduceSub, bindT, bindAll, wipeE, bindOwn, ownOf, pBin, pCmp, Bool.not_true, Bool.not_false, Option.map_some, pIdx_tup, atI0]) src_tup
          obtain ⟨δ', ⟨s2, rfl⟩, e3⟩ := for_all (F := lf (callN T k) [2] (.ife (.or (.not (.isi (.var 2) ["tuple"])) (.or (.cmp .ne (.bi .len (.cons (.var 2) .nil)) (.k (.int 3))) (.cmp .ne (.comp [4] [4] .plain (.cons (.var 2) .nil) (.not (.isi (.var 4) ["bool"])) (.k (.int 1))) (.lst .nil)))) (.ret (.k (.bl false))) .skip)) (μ := μ) (p := isRow)
            (fun δ => ∃ s2, δ = [.val (.int m), .val (.tup [.tup ts, b]), s2, .no, .no]) ts _ ⟨.no, rfl⟩ (fun x hx δ ⟨s2, e⟩ => by
              subst e
              refine ⟨[.val (.int m), .val (.tup [.tup ts, b]), .val x, .no, .no], ⟨_, rfl⟩, ?_⟩
              have gx := gt x hx
              unfold lf
              cases x with
              | tup ys =>
                have gy := (good_tup.mp gx).2
                have hc := ev_comp (Φ := callN T k) (own := [4]) (tg := [4]) (kd := .plain) (src := .cons (.var 2) .nil) (cnd := .not (.isi (.var 4) ["bool"])) (elt := .k (.int 1))
                  (δ := [.val (.int m), .val (.tup [.tup ts, b]), .val (.tup ys), .no, .no]) (μ := μ) (μ0 := μ) (d := .tup [.tup ys]) (by simp (config := {decide := false}) only [e_var, e_k, e_glob, e_nil, e_cons, e_tup, e_lst, e_call, e_bin, e_cmp, e_chain, e_and, e_or, e_not, e_ite, e_neg, e_idx, e_slc, e_rev, e_bi, e_isi, e_alloc, e_olen, e_oidx, e_oin, s_skip, s_seq, s_expr, s_set, s_par, s_own, s_app, s_setR, s_ife, s_ret, s_frz, s_raise, rb_ok, rs_nx, rs_rt, startE, finish, List.map_cons, List.map_nil, List.cons_append, List.nil_append, List.length_cons, List.length_nil, List.replicate, List.getElem?_cons_zero, List.getElem?_cons_succ, List.set_cons_zero, List.set_cons_succ, packOf, partE, condE, evT, rT, rI, rB, rD, flat, if_true, if_false, ↓reduceIte, Bool.false_eq_true, Nat.reduceAdd, Nat.reduceSub, bindT, bindAll, wipeE, bindOwn, ownOf, pBin, pCmp, Bool.not_true, Bool.not_false, Option.map_some]) src_tup (comp_not isBlD ys fun t ht => by
                    unfold tf
                    cases e : isBlD t <;> simp (config := {decide := false}) only [e_var, e_k, e_glob, e_nil, e_cons, e_tup, e_lst, e_call, e_bin, e_cmp, e_chain, e_and, e_or, e_not, e_ite, e_neg, e_idx, e_slc, e_rev, e_bi, e_isi, e_alloc, e_olen, e_oidx, e_oin, s_skip, s_seq, s_expr, s_set, s_par, s_own, s_app, s_setR, s_ife, s_ret, s_frz, s_raise, rb_ok, rs_nx, rs_rt, startE, finish, List.map_cons, List.map_nil, List.cons_append, List.nil_append, List.length_cons, List.length_nil, List.replicate, List.getElem?_cons_zero, List.getElem?_cons_succ, List.set_cons_zero, List.set_cons_succ, packOf, partE, condE, evT, rT, rI, rB, rD, flat, if_true, if_false, ↓reduceIte, Bool.false_eq_true, Nat.reduceAdd, Nat.reduceSub, bindT, bindAll, wipeE, bindOwn, ownOf, pBin, pCmp, Bool.not_true, Bool.not_false, Option.map_some, isi_bool (gy t ht), e])
                cases e4 : ((ys.length : Int) == 3) with
                | false => simp (config := {decide := false}) only [e_var, e_k, e_glob, e_nil, e_cons, e_tup, e_lst, e_call, e_bin, e_cmp, e_chain, e_and, e_or, e_not, e_ite, e_neg, e_idx, e_slc, e_rev, e_bi, e_isi, e_alloc, e_olen, e_oidx, e_oin, s_skip, s_seq, s_expr, s_set, s_par, s_own, s_app, s_setR, s_ife, s_ret, s_frz, s_raise, rb_ok, rs_nx, rs_rt, startE, finish, List.map_cons, List.map_nil, List.cons_append, List.nil_append, List.length_cons, List.length_nil, List.replicate, List.getElem?_cons_zero, List.getElem?_cons_succ, List.set_cons_zero, List.set_cons_succ, packOf, partE, condE, evT, rT, rI, rB, rD, flat, if_true, if_false, ↓reduceIte, Bool.false_eq_true, Nat.reduceAdd, Nat.reduceSub, bindT, bindAll, wipeE, bindOwn, ownOf, pBin, pCmp, Bool.not_true, Bool.not_false, Option.map_some, isi_tup gx, isTup, len_t, eq_ii, e4, isRow, Bool.false_and]
                | true => cases e5 : ys.all isBlD <;> simp (config := {decide := false}) only [e_var, e_k, e_glob, e_nil, e_cons, e_tup, e_lst, e_call, e_bin, e_cmp, e_chain, e_and, e_or, e_not, e_ite, e_neg, e_idx, e_slc, e_rev, e_bi, e_isi, e_alloc, e_olen, e_oidx, e_oin, s_skip, s_seq, s_expr, s_set, s_par, s_own, s_app, s_setR, s_ife, s_ret, s_frz, s_raise, rb_ok, rs_nx, rs_rt, startE, finish, List.map_cons, List.map_nil, List.cons_append, List.nil_append, List.length_cons, List.length_nil, List.replicate, List.getElem?_cons_zero, List.getElem?_cons_succ, List.set_cons_zero, List.set_cons_succ, packOf, partE, condE, evT, rT, rI, rB, rD, flat, if_true, if_false, ↓reduceIte, Bool.false_eq_true, Nat.reduceAdd, Nat.reduceSub, bindT, bindAll, wipeE, bindOwn, ownOf, pBin, pCmp, Bool.not_true, Bool.not_false, Option.map_some, isi_tup gx, isTup, len_t, eq_ii, e4, hc, ne_ones, e5, isRow, Bool.true_and]
              | _ => first | (simp [good] at gx; done) | (simp (config := {decide := false}) only [e_var, e_k, e_glob, e_nil, e_cons, e_tup, e_lst, e_call, e_bin, e_cmp, e_chain, e_and, e_or, e_not, e_ite, e_neg, e_idx, e_slc, e_rev, e_bi, e_isi, e_alloc, e_olen, e_oidx, e_oin, s_skip, s_seq, s_expr, s_set, s_par, s_own, s_app, s_setR, s_ife, s_ret, s_frz, s_raise, rb_ok, rs_nx, rs_rt, startE, finish, List.map_cons, List.map_nil, List.cons_append, List.nil_append, List.length_cons, List.length_nil, List.replicate, List.getElem?_cons_zero, List.getElem?_cons_succ, List.set_cons_zero, List.set_cons_succ, packOf, partE, condE, evT, rT, rI, rB, rD, flat, if_true, if_false, ↓reduceIte, Bool.false_eq_true, Nat.reduceAdd, Nat.reduceSub, bindT, bindAll, wipeE, bindOwn, ownOf, pBin, pCmp, Bool.not_true, Bool.not_false, Option.map_some, isi_tup gx, isTup, isRow]; done))
          cases e4 : ts.all isRow with
          | false =>
            rw [e4] at e3
            simp only [Bool.false_eq_true, if_false] at e3
            simp (config := {decide := false}) only [e_var, e_k, e_glob, e_nil, e_cons, e_tup, e_lst, e_call, e_bin, e_cmp, e_chain, e_and, e_or, e_not, e_ite, e_neg, e_idx, e_slc, e_rev, e_bi, e_isi, e_alloc, e_olen, e_oidx, e_oin, s_skip, s_seq, s_expr, s_set, s_par, s_own, s_app, s_setR, s_ife, s_ret, s_frz, s_raise, rb_ok, rs_nx, rs_rt, startE, finish, List.map_cons, List.map_nil, List.cons_append, List.nil_append, List.length_cons, List.length_nil, List.replicate, List.getElem?_cons_zero, List.getElem?_cons_succ, List.set_cons_zero, List.set_cons_succ, packOf, partE, condE, evT, rT, rI, rB, rD, flat, if_true, if_false, ↓reduceIte, Bool.false_eq_true, Nat.reduceAdd, Nat.reduceSub, bindT, bindAll, wipeE, bindOwn, ownOf, pBin, pCmp, Bool.not_true, Bool.not_false, Option.map_some, isi_tup g, isTup, len_t, eq_ii, pIdx_tup, atI0, atI1, isi_tup ga, e1, hl, e3, isStand, isStand2, e2, e4, Bool.false_and, Bool.true_and, two_eq]
          | true =>
            rw [e4] at e3
            simp only [if_true] at e3
            cases b with
            | int i =>
              have ew : decide (i < (ts.length : Int)) = decide (i ≤ (ts.length : Int) - 1) := by
                rw [decide_eq_decide]
                omega
              cases e5 : decide (-1 ≤ i) <;> simp (config := {decide := false}) only [e_var, e_k, e_glob, e_nil, e_cons, e_tup, e_lst, e_call, e_bin, e_cmp, e_chain, e_and, e_or, e_not, e_ite, e_neg, e_idx, e_slc, e_rev, e_bi, e_isi, e_alloc, e_olen, e_oidx, e_oin, s_skip, s_seq, s_expr, s_set, s_par, s_own, s_app, s_setR, s_ife, s_ret, s_frz, s_raise, rb_ok, rs_nx, rs_rt, startE, finish, List.map_cons, List.map_nil, List.cons_append, List.nil_append, List.length_cons, List.length_nil, List.replicate, List.getElem?_cons_zero, List.getElem?_cons_succ, List.set_cons_zero, List.set_cons_succ, packOf, partE, condE, evT, rT, rI, rB, rD, flat, if_true, if_false, ↓reduceIte, Bool.false_eq_true, Nat.reduceAdd, Nat.reduceSub, bindT, bindAll, wipeE, bindOwn, ownOf, pBin, pCmp, Bool.not_true, Bool.not_false, Option.map_some, isi_tup g, isTup, len_t, eq_ii, pIdx_tup, atI0, atI1, isi_tup ga, e1, hl, e3, isStand, isStand2, e2, e4, Bool.false_and, Bool.true_and, two_eq, isi_int gb, isi_bool gb, isIntD, isBlD, within, e5, ew]
            | _ => first | (simp [good] at gb; done) | (simp (config := {decide := false}) only [e_var, e_k, e_glob, e_nil, e_cons, e_tup, e_lst, e_call, e_bin, e_cmp, e_chain, e_and, e_or, e_not, e_ite, e_neg, e_idx, e_slc, e_rev, e_bi, e_isi, e_alloc, e_olen, e_oidx, e_oin, s_skip, s_seq, s_expr, s_set, s_par, s_own, s_app, s_setR, s_ife, s_ret, s_frz, s_raise, rb_ok, rs_nx, rs_rt, startE, finish, List.map_cons, List.map_nil, List.cons_append, List.nil_append, List.length_cons, List.length_nil, List.replicate, List.getElem?_cons_zero, List.getElem?_cons_succ, List.set_cons_zero, List.set_cons_succ, packOf, partE, condE, evT, rT, rI, rB, rD, flat, if_true, if_false, ↓reduceIte, Bool.false_eq_true, Nat.reduceAdd, Nat.reduceSub, bindT, bindAll, wipeE, bindOwn, ownOf, pBin, pCmp, Bool.not_true, Bool.not_false, Option.map_some, isi_tup g, isTup, len_t, eq_ii, pIdx_tup, atI0, atI1, isi_tup ga, e1, hl, e3, isStand, isStand2, e2, e4, Bool.false_and, Bool.true_and, two_eq, isi_int gb, isi_bool gb, isIntD, isBlD, within]; done)
      | _ => first | (simp [good] at ga; done) | (simp (config := {decide := false}) only [e_var, e_k, e_glob, e_nil, e_cons, e_tup, e_lst, e_call, e_bin, e_cmp, e_chain, e_and, e_or, e_not, e_ite, e_neg, e_idx, e_slc, e_rev, e_bi, e_isi, e_alloc, e_olen, e_oidx, e_oin, s_skip, s_seq, s_expr, s_set, s_par, s_own, s_app, s_setR, s_ife, s_ret, s_frz, s_raise, rb_ok, rs_nx, rs_rt, startE, finish, List.map_cons, List.map_nil, List.cons_append, List.nil_append, List.length_cons, List.length_nil, List.replicate, List.getElem?_cons_zero, List.getElem?_cons_succ, List.set_cons_zero, List.set_cons_succ, packOf, partE, condE, evT, rT, rI, rB, rD, flat, if_true, if_false, ↓reduceIte, Bool.false_eq_true, Nat.reduceAdd, Nat.reduceSub, bindT, bindAll, wipeE, bindOwn, ownOf, pBin, pCmp, Bool.not_true, Bool.not_false, Option.map_some, isi_tup g, isTup, len_t, eq_ii, pIdx_tup, atI0, isi_tup ga, isStand, isStand2, two_eq]; done)
    · simp (config := {decide := false}) only [e_var, e_k, e_glob, e_nil, e_cons, e_tup, e_lst, e_call, e_bin, e_cmp, e_chain, e_and, e_or, e_not, e_ite, e_neg, e_idx, e_slc, e_rev, e_bi, e_isi, e_alloc, e_olen, e_oidx, e_oin, s_skip, s_seq, s_expr, s_set, s_par, s_own, s_app, s_setR, s_ife, s_ret, s_frz, s_raise, rb_ok, rs_nx, rs_rt, startE, finish, List.map_cons, List.map_nil, List.cons_append, List.nil_append, List.length_cons, List.length_nil, List.replicate, List.getElem?_cons_zero, List.getElem?_cons_succ, List.set_cons_zero, List.set_cons_succ, packOf, partE, condE, evT, rT, rI, rB, rD, flat, if_true, if_false, ↓reduceIte, Bool.false_eq_true, Nat.reduceAdd, Nat.reduceSub, bindT, bindAll, wipeE, bindOwn, ownOf, pBin, pCmp, Bool.not_true, Bool.not_false, Option.map_some, isi_tup g, isTup, len_t, eq_ii, h2, isStand_no h2]
  | _ => first | (simp [good] at g; done) | (simp (config := {decide := false}) only [e_var, e_k, e_glob, e_nil, e_cons, e_tup, e_lst, e_call, e_bin, e_cmp, e_chain, e_and, e_or, e_not, e_ite, e_neg, e_idx, e_slc, e_rev, e_bi, e_isi, e_alloc, e_olen, e_oidx, e_oin, s_skip, s_seq, s_expr, s_set, s_par, s_own, s_app, s_setR, s_ife, s_ret, s_frz, s_raise, rb_ok, rs_nx, rs_rt, startE, finish, List.map_cons, List.map_nil, List.cons_append, List.nil_append, List.length_cons, List.length_nil, List.replicate, List.getElem?_cons_zero, List.getElem?_cons_succ, List.set_cons_zero, List.set_cons_succ, packOf, partE, condE, evT, rT, rI, rB, rD, flat, if_true, if_false, ↓reduceIte, Bool.false_eq_true, Nat.reduceAdd, Nat.reduceSub, bindT, bindAll, wipeE, bindOwn, ownOf, pBin, pCmp, Bool.not_true, Bool.not_false, Option.map_some, isi_tup g, isTup]; rfl)
end
end SC.P

set_option Elab.async false
set_option linter.all false
set_option maxRecDepth 100000
/-! P01c: the law k01, plain: odd values, the law. -/
namespace SC.P
open PySem L2 SC.k01
def oddL1 : List D := [.non, .bl true, .bl false, .int 0, .int 1, .int 2, .int (-1), .int (10 ^ (20 : Int).toNat), .str (Str.ofString ""), .str (Str.ofString "no"), .str (Str.ofString "no act"), .str (Str.ofString "noxact"), .str (Str.ofString "no  act"), .str (Str.ofString "Act"), .str (Str.ofString "act"), .str (Str.ofString "keep")]
def oddL2 : List D := [.str (Str.ofString "reach"), .str (Str.ofString "no keep"), .str (Str.ofString "no no act"), .tup [], .lst [], .tup [.str (Str.ofString "act")], .tup [.tup [], .str (Str.ofString "keep")], .tup [.bl true, .bl true, .bl true], .tup [.int 0, .int 0, .int 0]]
theorem oddL_good : ∀ x ∈ oddL1 ++ oddL2, good 3 x = true := by decide +kernel
theorem list_tup {μ : Store} {xs : List D} : pBf .list μ [.tup xs] = some (.lst xs) := rfl
theorem isi_non : pIsi .non ["tuple"] = some false := rfl
theorem odd_add {μ : Store} : pAdd μ (.lst oddL1) (.lst oddL2) = some (.lst (oddL1 ++ oddL2)) := by
  simp only [pAdd, lstOf]
  rw [if_pos]
  have := line1000
  simp [oddL1, oddL2]
  omega
def oddS : S := (.seq (.set [2] (.lst (.cons (.k .non) (.cons (.k (.bl true)) (.cons (.k (.bl false)) (.cons (.k (.int 0)) (.cons (.k (.int 1)) (.cons (.k (.int 2)) (.cons (.neg (.k (.int 1))) (.cons (.bin .pow (.k (.int 10)) (.k (.int 20))) (.cons (.k (.str (Str.ofString ""))) (.cons (.k (.str (Str.ofString "no"))) (.cons (.k (.str (Str.ofString "no act"))) (.cons (.k (.str (Str.ofString "noxact"))) (.cons (.k (.str (Str.ofString "no  act"))) (.cons (.k (.str (Str.ofString "Act"))) (.cons (.k (.str (Str.ofString "act"))) (.cons (.k (.str (Str.ofString "keep"))) .nil))))))))))))))))))
    (.seq (.set [2] (.bin .add (.var 2) (.lst (.cons (.k (.str (Str.ofString "reach"))) (.cons (.k (.str (Str.ofString "no keep"))) (.cons (.k (.str (Str.ofString "no no act"))) (.cons (.tup .nil) (.cons (.lst .nil) (.cons (.tup (.cons (.k (.str (Str.ofString "act"))) .nil)) (.cons (.tup (.cons (.tup .nil) (.cons (.k (.str (Str.ofString "keep"))) .nil))) (.cons (.tup (.cons (.k (.bl true)) (.cons (.k (.bl true)) (.cons (.k (.bl true)) .nil)))) (.cons (.tup (.cons (.k (.int 0)) (.cons (.k (.int 0)) (.cons (.k (.int 0)) .nil)))) .nil))))))))))))
    (.ret (.idx (.var 2) (.call "_law_take" (.cons (.var 0) (.cons (.k (.int 25)) .nil)))))) )
def oddR : S := (.seq (.par [(3, 0), (4, 0)] (.cons (.call "_law_take" (.cons (.var 0) (.cons (.bin .add (.bi .len (.cons (.var 1) .nil)) (.k (.int 1))) .nil))) (.cons (.call "_law_take" (.cons (.var 0) (.cons (.k (.int 5)) .nil))) .nil)))
    (.seq (.ife (.cmp .eq (.var 4) (.k (.int 0))) (.ret (.bi .list (.cons (.var 1) .nil))) .skip)
    (.seq (.ife (.or (.cmp .eq (.var 4) (.k (.int 1))) (.cmp .eq (.var 3) (.bi .len (.cons (.var 1) .nil)))) (.ret (.bin .add (.bin .add (.slc (.var 1) .nil (.var 3)) (.tup (.cons (.call "_law_odd" (.cons (.var 0) (.cons (.k .non) .nil))) .nil))) (.slc (.var 1) (.var 3) .nil))) .skip)
    (.seq (.ife (.cmp .eq (.var 4) (.k (.int 2))) (.ret (.bin .add (.bin .add (.slc (.var 1) .nil (.var 3)) (.slc (.var 1) (.var 3) (.bin .add (.var 3) (.k (.int 1))))) (.slc (.var 1) (.var 3) .nil))) .skip)
    (.seq (.ife (.cmp .eq (.var 4) (.k (.int 3))) (.ret (.bin .add (.slc (.var 1) .nil (.var 3)) (.slc (.var 1) (.bin .add (.var 3) (.k (.int 1))) .nil))) .skip)
    (.ret (.bin .add (.bin .add (.slc (.var 1) .nil (.var 3)) (.tup (.cons (.call "_law_odd" (.cons (.var 0) (.cons (.idx (.var 1) (.var 3)) .nil))) .nil))) (.slc (.var 1) (.bin .add (.var 3) (.k (.int 1))) .nil))))))))
theorem odd_body : d__law_odd.body = .seq (.ife (.or (.not (.isi (.var 1) ["tuple"])) (.cmp .eq (.call "_law_take" (.cons (.var 0) (.cons (.k (.int 4)) .nil))) (.k (.int 0)))) oddS .skip) oddR := rfl
theorem odd_ns : d__law_odd.ns = 5 := rfl
/-- one of the odd ones -/
theorem odd_pick {k n r : Nat} {μ : Store} {δ3 δ4 : Sl} {d : D} (b : Bag (n + 1) r μ) : ∃ x μ', evalS (callN T (k + 1)) oddS [.val (.ref r), .val d, .no, δ3, δ4] μ = .ok (.rt x, [.val (.ref r), .val d, .val (.lst (oddL1 ++ oddL2)), δ3, δ4], μ') ∧ good 3 x = true ∧ Bag n r μ' ∧ Fr r μ μ' := by
  obtain ⟨v, μ1, e1, v0, v1, b1, f1⟩ := take t0 (k := k) (m := 25) (n := n) b (by decide) (by decide)
  obtain ⟨x, hx, ex⟩ := atI_pick (xs := oddL1 ++ oddL2) v0 (by simpa [oddL1, oddL2] using v1)
  refine ⟨x, μ1, ?_, oddL_good x hx, b1, f1⟩
  have hp : (0 : Int) ≤ 20 ∧ (20 : Int) ≤ 1000000 ∧ (10 : Int).natAbs < 2 ^ 64 := by decide
  have ea := odd_add (μ := μ)
  have ei : pIdx μ1 (.lst (oddL1 ++ oddL2)) (.int v) = some x := by rw [pIdx_lst]; exact ex
  unfold oddL1 oddL2 at ea ei
  unfold oddS
  simp only [List.cons_append, List.nil_append] at ea ei
  simp (config := {decide := false}) only [e_var, e_k, e_glob, e_nil, e_cons, e_tup, e_lst, e_call, e_bin, e_cmp, e_chain, e_and, e_or, e_not, e_ite, e_neg, e_idx, e_slc, e_rev, e_bi, e_isi, e_alloc, e_olen, e_oidx, e_oin, s_skip, s_seq, s_expr, s_set, s_par, s_own, s_app, s_setR, s_ife, s_ret, s_frz, s_raise, rb_ok, rs_nx, rs_rt, startE, finish, List.map_cons, List.map_nil, List.cons_append, List.nil_append, List.length_cons, List.length_nil, List.replicate, List.getElem?_cons_zero, List.getElem?_cons_succ, List.set_cons_zero, List.set_cons_succ, packOf, partE, condE, evT, rT, rI, rB, rD, flat, if_true, if_false, ↓reduceIte, Bool.false_eq_true, Nat.reduceAdd, Nat.reduceSub, bindT, bindAll, wipeE, bindOwn, ownOf, pBin, pCmp, Bool.not_true, Bool.not_false, Option.map_some, hp, and_self, e1, ea, ei]
  rfl
theorem odd {r : Nat} {N k : Nat} (hN : N ≤ 100) (hN3 : 3 ≤ N + 1) : ∀ (m : Nat) (d : D) (n : Nat) (μ : Store), lev m d = true → good N d = true → Bag (n + (2 + 3 * m)) r μ → Got r n μ (callN T (k + m + 2) "_law_odd" [.ref r, d] μ) (fun e => good (N + 1) e = true) := by
  intro m
  induction m with
  | zero =>
    intro d n μ hl g b
    rw [call_eq t__law_odd rfl, odd_body, odd_ns]
    obtain ⟨x, μ', e, gx, b', f'⟩ := odd_pick (k := k) (d := d) (δ3 := .no) (δ4 := .no) (b.mono (show n + 1 ≤ n + (2 + 3 * 0) by omega))
    refine ⟨x, μ', ?_, good_mono hN3 x gx, b', f'⟩
    have ht : isTup d = false := by cases d <;> first | rfl | cases hl
    simp (config := {decide := false}) only [e_var, e_k, e_glob, e_nil, e_cons, e_tup, e_lst, e_call, e_bin, e_cmp, e_chain, e_and, e_or, e_not, e_ite, e_neg, e_idx, e_slc, e_rev, e_bi, e_isi, e_alloc, e_olen, e_oidx, e_oin, s_skip, s_seq, s_expr, s_set, s_par, s_own, s_app, s_setR, s_ife, s_ret, s_frz, s_raise, rb_ok, rs_nx, rs_rt, startE, finish, List.map_cons, List.map_nil, List.cons_append, List.nil_append, List.length_cons, List.length_nil, List.replicate, List.getElem?_cons_zero, List.getElem?_cons_succ, List.set_cons_zero, List.set_cons_succ, packOf, partE, condE, evT, rT, rI, rB, rD, flat, if_true, if_false, ↓reduceIte, Bool.false_eq_true, Nat.reduceAdd, Nat.reduceSub, bindT, bindAll, wipeE, bindOwn, ownOf, pBin, pCmp, Bool.not_true, Bool.not_false, Option.map_some, isi_tup g, ht, e]
  | succ m ih0 =>
    intro d n μ hl g b
    have ih : ∀ (d : D) (n : Nat) (μ : Store), lev m d = true → good N d = true → Bag (n + (2 + 3 * m)) r μ → Got r n μ (callN T (k + m + 1 + 1) "_law_odd" [.ref r, d] μ) (fun e => good (N + 1) e = true) := ih0
    rw [show k + (m + 1) + 2 = k + m + 1 + 1 + 1 by omega, call_eq t__law_odd rfl, odd_body, odd_ns]
    by_cases ht : isTup d = true
    · have hx : ∃ xs, d = .tup xs := by cases d <;> first | exact ⟨_, rfl⟩ | cases ht
      obtain ⟨xs, rfl⟩ := hx
      obtain ⟨g1, g2⟩ := good_tup.mp g
      obtain ⟨v, μ1, e1, v0, v1, b1, f1⟩ := take t0 (k := k + m + 1) (m := 4) (n := n + (2 + 3 * m) + 2) (b.mono (by omega)) (by decide) (by decide)
      by_cases hv : v = 0
      · subst hv
        obtain ⟨x, μ', e, gx, b', f'⟩ := odd_pick (k := k + m + 1) (d := .tup xs) (δ3 := .no) (δ4 := .no) (b1.mono (show n + 1 ≤ n + (2 + 3 * m) + 2 by omega))
        refine ⟨x, μ', ?_, good_mono hN3 x gx, b', f1.trans f'⟩
        simp (config := {decide := false}) only [e_var, e_k, e_glob, e_nil, e_cons, e_tup, e_lst, e_call, e_bin, e_cmp, e_chain, e_and, e_or, e_not, e_ite, e_neg, e_idx, e_slc, e_rev, e_bi, e_isi, e_alloc, e_olen, e_oidx, e_oin, s_skip, s_seq, s_expr, s_set, s_par, s_own, s_app, s_setR, s_ife, s_ret, s_frz, s_raise, rb_ok, rs_nx, rs_rt, startE, finish, List.map_cons, List.map_nil, List.cons_append, List.nil_append, List.length_cons, List.length_nil, List.replicate, List.getElem?_cons_zero, List.getElem?_cons_succ, List.set_cons_zero, List.set_cons_succ, packOf, partE, condE, evT, rT, rI, rB, rD, flat, if_true, if_false, ↓reduceIte, Bool.false_eq_true, Nat.reduceAdd, Nat.reduceSub, bindT, bindAll, wipeE, bindOwn, ownOf, pBin, pCmp, Bool.not_true, Bool.not_false, Option.map_some, isi_tup g, isTup, e1, eq_ii, BEq.rfl, e]
      · have hv0 : (v == 0) = false := by simp [hv]
        obtain ⟨a, μ2, e2, a0, a1, b2, f2⟩ := take t0 (k := k + m + 1) (m := (xs.length : Int) + 1) (n := n + (2 + 3 * m) + 1) b1 (by omega) (by omega)
        obtain ⟨u, μ3, e3, u0, u1, b3, f3⟩ := take t0 (k := k + m + 1) (m := 5) (n := n + (2 + 3 * m)) b2 (by decide) (by decide)
        obtain ⟨j, rfl⟩ := Int.eq_ofNat_of_zero_le a0
        have f := (f1.trans f2).trans f3
        have mono := good_mono (N := N) (M := N + 1) (by omega)
        have gm : ∀ ys : List D, ys.length ≤ xs.length + 1 → (∀ y ∈ ys, good (N + 1) y = true) → good (N + 1) (.tup ys) = true := fun ys h1 h2 => good_tup.mpr ⟨by omega, h2⟩
        have lt : (xs.take j).length = min j xs.length := List.length_take
        have ld : (xs.drop j).length = xs.length - j := List.length_drop
        have ld1 : (xs.drop (j + 1)).length = xs.length - (j + 1) := List.length_drop
        have ej : ((j : Int) + 1) = ((j + 1 : Nat) : Int) := by omega
        unfold oddR
        by_cases h0 : u = 0
        · subst h0
          refine ⟨.lst xs, μ3, ?_, good_lst.mpr ⟨by omega, fun x hx => mono x (g2 x hx)⟩, b3.mono (by omega), f⟩
          simp (config := {decide := false}) only [e_var, e_k, e_glob, e_nil, e_cons, e_tup, e_lst, e_call, e_bin, e_cmp, e_chain, e_and, e_or, e_not, e_ite, e_neg, e_idx, e_slc, e_rev, e_bi, e_isi, e_alloc, e_olen, e_oidx, e_oin, s_skip, s_seq, s_expr, s_set, s_par, s_own, s_app, s_setR, s_ife, s_ret, s_frz, s_raise, rb_ok, rs_nx, rs_rt, startE, finish, List.map_cons, List.map_nil, List.cons_append, List.nil_append, List.length_cons, List.length_nil, List.replicate, List.getElem?_cons_zero, List.getElem?_cons_succ, List.set_cons_zero, List.set_cons_succ, packOf, partE, condE, evT, rT, rI, rB, rD, flat, if_true, if_false, ↓reduceIte, Bool.false_eq_true, Nat.reduceAdd, Nat.reduceSub, bindT, bindAll, wipeE, bindOwn, ownOf, pBin, pCmp, Bool.not_true, Bool.not_false, Option.map_some, isi_tup g, isTup, e1, eq_ii, hv0, len_t, add_ii, e2, e3, BEq.rfl, list_tup]
        · have hu0 : (u == 0) = false := by simp [h0]
          by_cases h1 : u = 1 ∨ j = xs.length
          · obtain ⟨x, μ4, e4, gx, b4, f4⟩ := (ih .non n μ3 (by cases m <;> rfl) rfl b3).ex
            refine ⟨.tup (xs.take j ++ [x] ++ xs.drop j), μ4, ?_, gm _ (by simp; omega) (fun y hy => ?_), b4, f.trans f4⟩
            · have hh : ((u == 1) || ((j : Int) == xs.length)) = true := by
                rcases h1 with h1 | h1
                · simp [h1]
                · simp [h1]
              cases hu1 : (u == 1) with
              | true => simp (config := {decide := false}) only [e_var, e_k, e_glob, e_nil, e_cons, e_tup, e_lst, e_call, e_bin, e_cmp, e_chain, e_and, e_or, e_not, e_ite, e_neg, e_idx, e_slc, e_rev, e_bi, e_isi, e_alloc, e_olen, e_oidx, e_oin, s_skip, s_seq, s_expr, s_set, s_par, s_own, s_app, s_setR, s_ife, s_ret, s_frz, s_raise, rb_ok, rs_nx, rs_rt, startE, finish, List.map_cons, List.map_nil, List.cons_append, List.nil_append, List.length_cons, List.length_nil, List.replicate, List.getElem?_cons_zero, List.getElem?_cons_succ, List.set_cons_zero, List.set_cons_succ, packOf, partE, condE, evT, rT, rI, rB, rD, flat, if_true, if_false, ↓reduceIte, Bool.false_eq_true, Nat.reduceAdd, Nat.reduceSub, bindT, bindAll, wipeE, bindOwn, ownOf, pBin, pCmp, Bool.not_true, Bool.not_false, Option.map_some, isi_tup g, isTup, e1, eq_ii, hv0, len_t, add_ii, e2, e3, hu0, hu1, slc_t, cut_take, cut_drop, e4, add_tt (show (xs.take j).length + [x].length ≤ 1000 by simp; omega), add_tt (show (xs.take j ++ [x]).length + (xs.drop j).length ≤ 1000 by simp; omega)]
              | false =>
                rw [hu1, Bool.false_or] at hh
                simp (config := {decide := false}) only [e_var, e_k, e_glob, e_nil, e_cons, e_tup, e_lst, e_call, e_bin, e_cmp, e_chain, e_and, e_or, e_not, e_ite, e_neg, e_idx, e_slc, e_rev, e_bi, e_isi, e_alloc, e_olen, e_oidx, e_oin, s_skip, s_seq, s_expr, s_set, s_par, s_own, s_app, s_setR, s_ife, s_ret, s_frz, s_raise, rb_ok, rs_nx, rs_rt, startE, finish, List.map_cons, List.map_nil, List.cons_append, List.nil_append, List.length_cons, List.length_nil, List.replicate, List.getElem?_cons_zero, List.getElem?_cons_succ, List.set_cons_zero, List.set_cons_succ, packOf, partE, condE, evT, rT, rI, rB, rD, flat, if_true, if_false, ↓reduceIte, Bool.false_eq_true, Nat.reduceAdd, Nat.reduceSub, bindT, bindAll, wipeE, bindOwn, ownOf, pBin, pCmp, Bool.not_true, Bool.not_false, Option.map_some, isi_tup g, isTup, e1, eq_ii, hv0, len_t, add_ii, e2, e3, hu0, hu1, hh, slc_t, cut_take, cut_drop, e4, add_tt (show (xs.take j).length + [x].length ≤ 1000 by simp; omega), add_tt (show (xs.take j ++ [x]).length + (xs.drop j).length ≤ 1000 by simp; omega)]
            · simp only [List.mem_append, List.mem_singleton] at hy
              rcases hy with (hy | rfl) | hy
              · exact mono y (g2 y (List.mem_of_mem_take hy))
              · exact gx
              · exact mono y (g2 y (List.mem_of_mem_drop hy))
          · have hu1 : (u == 1) = false := by simp; exact fun z => h1 (.inl z)
            have hjl : ((j : Int) == xs.length) = false := by simp; exact fun z => h1 (.inr (by omega))
            by_cases h2 : u = 2
            · subst h2
              have lm := len_mid (xs := xs) (j := j)
              refine ⟨.tup (xs.take j ++ cut xs (some (j : Int)) (some ((j : Int) + 1)) ++ xs.drop j), μ3, ?_, gm _ (by rw [ej]; simp only [List.length_append]; omega) (fun y hy => ?_), b3.mono (by omega), f⟩
              · rw [← ej] at lm
                simp (config := {decide := false}) only [e_var, e_k, e_glob, e_nil, e_cons, e_tup, e_lst, e_call, e_bin, e_cmp, e_chain, e_and, e_or, e_not, e_ite, e_neg, e_idx, e_slc, e_rev, e_bi, e_isi, e_alloc, e_olen, e_oidx, e_oin, s_skip, s_seq, s_expr, s_set, s_par, s_own, s_app, s_setR, s_ife, s_ret, s_frz, s_raise, rb_ok, rs_nx, rs_rt, startE, finish, List.map_cons, List.map_nil, List.cons_append, List.nil_append, List.length_cons, List.length_nil, List.replicate, List.getElem?_cons_zero, List.getElem?_cons_succ, List.set_cons_zero, List.set_cons_succ, packOf, partE, condE, evT, rT, rI, rB, rD, flat, if_true, if_false, ↓reduceIte, Bool.false_eq_true, Nat.reduceAdd, Nat.reduceSub, bindT, bindAll, wipeE, bindOwn, ownOf, pBin, pCmp, Bool.not_true, Bool.not_false, Option.map_some, isi_tup g, isTup, e1, eq_ii, hv0, len_t, add_ii, e2, e3, hu0, hu1, hjl, BEq.rfl, slc_t, cut_take, cut_drop, add_tt (show (xs.take j).length + (cut xs (some (j : Int)) (some ((j : Int) + 1))).length ≤ 1000 by omega), add_tt (show (xs.take j ++ cut xs (some (j : Int)) (some ((j : Int) + 1))).length + (xs.drop j).length ≤ 1000 by simp only [List.length_append]; omega)]
              · simp only [List.mem_append] at hy
                rcases hy with (hy | hy) | hy
                · exact mono y (g2 y (List.mem_of_mem_take hy))
                · exact mono y (g2 y (mem_cut hy))
                · exact mono y (g2 y (List.mem_of_mem_drop hy))
            · have hu2 : (u == 2) = false := by simp [h2]
              by_cases h3 : u = 3
              · subst h3
                refine ⟨.tup (xs.take j ++ xs.drop (j + 1)), μ3, ?_, gm _ (by simp only [List.length_append]; omega) (fun y hy => ?_), b3.mono (by omega), f⟩
                · have es : cut xs (some ((j : Int) + 1)) none = xs.drop (j + 1) := by rw [ej, cut_drop]
                  simp (config := {decide := false}) only [e_var, e_k, e_glob, e_nil, e_cons, e_tup, e_lst, e_call, e_bin, e_cmp, e_chain, e_and, e_or, e_not, e_ite, e_neg, e_idx, e_slc, e_rev, e_bi, e_isi, e_alloc, e_olen, e_oidx, e_oin, s_skip, s_seq, s_expr, s_set, s_par, s_own, s_app, s_setR, s_ife, s_ret, s_frz, s_raise, rb_ok, rs_nx, rs_rt, startE, finish, List.map_cons, List.map_nil, List.cons_append, List.nil_append, List.length_cons, List.length_nil, List.replicate, List.getElem?_cons_zero, List.getElem?_cons_succ, List.set_cons_zero, List.set_cons_succ, packOf, partE, condE, evT, rT, rI, rB, rD, flat, if_true, if_false, ↓reduceIte, Bool.false_eq_true, Nat.reduceAdd, Nat.reduceSub, bindT, bindAll, wipeE, bindOwn, ownOf, pBin, pCmp, Bool.not_true, Bool.not_false, Option.map_some, isi_tup g, isTup, e1, eq_ii, hv0, len_t, add_ii, e2, e3, hu0, hu1, hjl, hu2, BEq.rfl, slc_t, cut_take, es, add_tt (show (xs.take j).length + (xs.drop (j + 1)).length ≤ 1000 by omega)]
                · simp only [List.mem_append] at hy
                  rcases hy with hy | hy
                  · exact mono y (g2 y (List.mem_of_mem_take hy))
                  · exact mono y (g2 y (List.mem_of_mem_drop hy))
              · have hu3 : (u == 3) = false := by simp [h3]
                have hj : j < xs.length := by
                  have : j ≠ xs.length := fun z => h1 (.inr z)
                  omega
                obtain ⟨z, hz, ez⟩ := atI_pick (xs := xs) (v := (j : Int)) (by omega) (by omega)
                have lz : lev m z = true := by
                  have := hl
                  rw [lev] at this
                  exact List.all_eq_true.mp this z hz
                obtain ⟨x, μ4, e4, gx, b4, f4⟩ := (ih z n μ3 lz (g2 z hz) b3).ex
                refine ⟨.tup (xs.take j ++ [x] ++ xs.drop (j + 1)), μ4, ?_, gm _ (by simp only [List.length_append, List.length_cons, List.length_nil]; omega) (fun y hy => ?_), b4, f.trans f4⟩
                · have es : cut xs (some ((j : Int) + 1)) none = xs.drop (j + 1) := by rw [ej, cut_drop]
                  simp (config := {decide := false}) only [e_var, e_k, e_glob, e_nil, e_cons, e_tup, e_lst, e_call, e_bin, e_cmp, e_chain, e_and, e_or, e_not, e_ite, e_neg, e_idx, e_slc, e_rev, e_bi, e_isi, e_alloc, e_olen, e_oidx, e_oin, s_skip, s_seq, s_expr, s_set, s_par, s_own, s_app, s_setR, s_ife, s_ret, s_frz, s_raise, rb_ok, rs_nx, rs_rt, startE, finish, List.map_cons, List.map_nil, List.cons_append, List.nil_append, List.length_cons, List.length_nil, List.replicate, List.getElem?_cons_zero, List.getElem?_cons_succ, List.set_cons_zero, List.set_cons_succ, packOf, partE, condE, evT, rT, rI, rB, rD, flat, if_true, if_false, ↓reduceIte, Bool.false_eq_true, Nat.reduceAdd, Nat.reduceSub, bindT, bindAll, wipeE, bindOwn, ownOf, pBin, pCmp, Bool.not_true, Bool.not_false, Option.map_some, isi_tup g, isTup, e1, eq_ii, hv0, len_t, add_ii, e2, e3, hu0, hu1, hjl, hu2, hu3, slc_t, cut_take, es, pIdx_tup, ez, e4, add_tt (show (xs.take j).length + [x].length ≤ 1000 by simp; omega), add_tt (show (xs.take j ++ [x]).length + (xs.drop (j + 1)).length ≤ 1000 by simp only [List.length_append, List.length_cons, List.length_nil]; omega)]
                · simp only [List.mem_append, List.mem_singleton] at hy
                  rcases hy with (hy | rfl) | hy
                  · exact mono y (g2 y (List.mem_of_mem_take hy))
                  · exact gx
                  · exact mono y (g2 y (List.mem_of_mem_drop hy))
    · obtain ⟨x, μ', e, gx, b', f'⟩ := odd_pick (k := k + m + 1) (d := d) (δ3 := .no) (δ4 := .no) (b.mono (show n + 1 ≤ n + (2 + 3 * (m + 1)) by omega))
      refine ⟨x, μ', ?_, good_mono hN3 x gx, b', f'⟩
      have ht : isTup d = false := by simpa using ht
      simp (config := {decide := false}) only [e_var, e_k, e_glob, e_nil, e_cons, e_tup, e_lst, e_call, e_bin, e_cmp, e_chain, e_and, e_or, e_not, e_ite, e_neg, e_idx, e_slc, e_rev, e_bi, e_isi, e_alloc, e_olen, e_oidx, e_oin, s_skip, s_seq, s_expr, s_set, s_par, s_own, s_app, s_setR, s_ife, s_ret, s_frz, s_raise, rb_ok, rs_nx, rs_rt, startE, finish, List.map_cons, List.map_nil, List.cons_append, List.nil_append, List.length_cons, List.length_nil, List.replicate, List.getElem?_cons_zero, List.getElem?_cons_succ, List.set_cons_zero, List.set_cons_succ, packOf, partE, condE, evT, rT, rI, rB, rD, flat, if_true, if_false, ↓reduceIte, Bool.false_eq_true, Nat.reduceAdd, Nat.reduceSub, bindT, bindAll, wipeE, bindOwn, ownOf, pBin, pCmp, Bool.not_true, Bool.not_false, Option.map_some, isi_tup g, ht, e]
end SC.P

set_option Elab.async false
set_option linter.all false
set_option maxRecDepth 100000
/-! P01d: the law k01, plain: the law. -/
namespace SC.P
open PySem L2 SC.k01
theorem for_run {F : D → SC.Env → Store → RS} (Q : Nat → SC.Env → Store → Prop) : ∀ (xs : List D) (k : Nat) (δ : SC.Env) (μ : Store), Q k δ μ →
    (∀ i x δ μ, xs[i]? = some x → Q (k + i) δ μ → ∃ δ' μ', F x δ μ = .ok (.nx, δ', μ') ∧ Q (k + i + 1) δ' μ') → ∃ δ' μ', forLoop F [] xs δ μ = .ok (.nx, δ', μ') ∧ Q (k + xs.length) δ' μ'
  | [], k, δ, μ, q, _ => ⟨δ, μ, rfl, q⟩
  | x :: xs, k, δ, μ, q, st => by
    obtain ⟨δ1, μ1, e1, q1⟩ := st 0 x δ μ rfl q
    obtain ⟨δ2, μ2, e2, q2⟩ := for_run Q xs (k + 1) δ1 μ1 q1 fun i y δ μ h p => by
      have := st (i + 1) y δ μ h (by rw [show k + (i + 1) = k + 1 + i by omega]; exact p)
      rw [show k + (i + 1) = k + 1 + i by omega] at this
      exact this
    refine ⟨δ2, μ2, ?_, by rw [List.length_cons, show k + (xs.length + 1) = k + 1 + xs.length by omega]; exact q2⟩
    unfold forLoop
    rw [gok0, e1]
    simpa using e2
theorem word_len : ∀ w ∈ wordL, w.length ≤ 1000 := by decide +kernel
theorem deed_len : ∀ w ∈ deedL, (Str.ofString w).length ≤ 1000 := by decide +kernel
theorem testD_good {N : Nat} {d : D} (h : TestD d) : good N d = true ∧ lev 0 d = true := by
  obtain ⟨w, hw, rfl⟩ := h
  exact ⟨by simp [good, word_len w hw], rfl⟩
theorem clauseD_good {N : Nat} (hN : 3 ≤ N) {d : D} (h : ClauseD d) : good N d = true ∧ lev 2 d = true := by
  obtain ⟨ts, y, rfl, l, ht, hy⟩ := h
  constructor
  · refine good_tup.mpr ⟨by simp; omega, fun x hx => ?_⟩
    simp only [List.mem_cons, List.not_mem_nil, or_false] at hx
    rcases hx with rfl | rfl
    · exact good_tup.mpr ⟨by omega, fun t h => (testD_good (ht t h)).1⟩
    · simp [good, deed_len y hy]
  · have : ts.all (lev 0) = true := List.all_eq_true.mpr fun t h => (testD_good (N := 0) (ht t h)).2
    simp [lev, this]
theorem ruleD_good {N n : Nat} (hN : 3 ≤ N) (hn : n ≤ N) {d : D} (h : RuleD n d) : good N d = true ∧ lev 3 d = true := by
  obtain ⟨cs, rfl, l, hc⟩ := h
  refine ⟨good_tup.mpr ⟨by omega, fun c h => (clauseD_good hN (hc c h)).1⟩, ?_⟩
  have : cs.all (lev 2) = true := List.all_eq_true.mpr fun t h => (clauseD_good hN (hc t h)).2
  simp [lev, this]
abbrev Φ : Fn := callN T 39
theorem odd39 {r n : Nat} {μ : Store} {d : D} (hl : lev 3 d = true) (g : good 20 d = true) (b : Bag (n + 11) r μ) : Got r n μ (Φ "_law_odd" [.ref r, d] μ) (fun e => good 21 e = true) := odd (k := 34) (N := 20) (by omega) (by omega) 3 d n μ hl g b
theorem take39 {r n : Nat} {m : Int} {μ : Store} (b : Bag (n + 1) r μ) (hm : 0 < m) (hm2 : m < 1073741824) : ∃ v μ', Φ "_law_take" [.ref r, .int m] μ = .ok (.int v, μ') ∧ 0 ≤ v ∧ v < m ∧ Bag n r μ' ∧ Fr r μ μ' := take t0 (k := 38) b hm hm2
/-- the loop that puts in the odd ones -/
theorem app_loop {r n : Nat} {μ : Store} {j : Nat} {d : D} {xs : List D} {a0 a2 a3 a5 a6 a7 a8 a9 a10 : Sl} {cnt : Nat} {src : Int} (hs : src = cnt) (hc : cnt ≤ 20)
    (hd : [a0, .val (.ref r), a2, a3, .own xs, a5, a6, a7, a8, a9, a10][j]? = some (.val d)) (hj : j = 2 ∨ j = 7) (hl : lev 3 d = true) (g : good 20 d = true) (hx : ∀ x ∈ xs, good 21 x = true) (hxl : xs.length ≤ 4) (b : Bag (n + 11 * cnt) r μ) :
    ∃ ys b5 μ', evalS Φ (.loop [5] .range (.cons (.k (.int src)) .nil) (.app 4 (.call "_law_odd" (.cons (.var 1) (.cons (.var j) .nil))))) [a0, .val (.ref r), a2, a3, .own xs, a5, a6, a7, a8, a9, a10] μ = .ok (.nx, [a0, .val (.ref r), a2, a3, .own ys, b5, a6, a7, a8, a9, a10], μ') ∧
      (∀ x ∈ ys, good 21 x = true) ∧ Bag n r μ' ∧ Fr r μ μ' := by
  subst hs
  have h1 := s_loop (Φ := Φ) (tg := [5]) (kd := .range) (src := .cons (.k (.int (cnt : Int))) .nil) (body := .app 4 (.call "_law_odd" (.cons (.var 1) (.cons (.var j) .nil)))) (δ := [a0, .val (.ref r), a2, a3, .own xs, a5, a6, a7, a8, a9, a10]) (μ := μ) (μ0 := μ) (d := .tup [.int (cnt : Int)]) (by simp (config := {decide := false}) only [e_var, e_k, e_glob, e_nil, e_cons, e_tup, e_lst, e_call, e_bin, e_cmp, e_chain, e_and, e_or, e_not, e_ite, e_neg, e_idx, e_slc, e_rev, e_bi, e_isi, e_alloc, e_olen, e_oidx, e_oin, s_skip, s_seq, s_expr, s_set, s_par, s_own, s_app, s_setR, s_ife, s_ret, s_frz, s_raise, rb_ok, rs_nx, rs_rt, startE, finish, List.map_cons, List.map_nil, List.cons_append, List.nil_append, List.length_cons, List.length_nil, List.replicate, List.getElem?_cons_zero, List.getElem?_cons_succ, List.set_cons_zero, List.set_cons_succ, packOf, partE, condE, evT, rT, rI, rB, rD, flat, if_true, if_false, ↓reduceIte, Bool.false_eq_true, Nat.reduceAdd, Nat.reduceSub, bindT, bindAll, wipeE, bindOwn, ownOf, pBin, pCmp, Bool.not_true, Bool.not_false, Option.map_some]) (pSrc_rg (m := cnt) (by omega))
  rw [h1]
  obtain ⟨δ', μ', e, ys, b5, rfl, p1, p2, p3, p4⟩ := for_run (F := lf Φ [5] (.app 4 (.call "_law_odd" (.cons (.var 1) (.cons (.var j) .nil))))) (fun i δ μ1 => ∃ ys b5, δ = [a0, .val (.ref r), a2, a3, .own ys, b5, a6, a7, a8, a9, a10] ∧ (∀ x ∈ ys, good 21 x = true) ∧ ys.length ≤ 4 + i ∧ Bag (n + 11 * (cnt - i)) r μ1 ∧ Fr r μ μ1)
    (rg 0 (cnt : Int)) 0 _ μ ⟨xs, a5, rfl, hx, by omega, by simpa using b, .refl⟩ (fun i x δ μ1 hx0 ⟨ys, b5, e, p1, p2, p3, p4⟩ => by
      subst e
      have hi : i < cnt := by
        have := (List.getElem?_eq_some_iff.mp hx0).1
        rwa [(rg_nat cnt (by omega)).2] at this
      obtain ⟨y, μ2, e2, gy, b2, f2⟩ := (odd39 (n := n + 11 * (cnt - (0 + i + 1))) hl g (p3.mono (by omega))).ex
      refine ⟨[a0, .val (.ref r), a2, a3, .own (ys ++ [y]), .val x, a6, a7, a8, a9, a10], μ2, ?_, ys ++ [y], .val x, rfl, fun z hz => ?_, by simp; omega, b2, p4.trans f2⟩
      · have hz : ys.length < sizeLine := by have := line1000; omega
        unfold lf
        rcases hj with rfl | rfl
        · simp only [List.getElem?_cons_succ, List.getElem?_cons_zero, Option.some.injEq] at hd
          subst hd
          simp (config := {decide := false}) only [e_var, e_k, e_glob, e_nil, e_cons, e_tup, e_lst, e_call, e_bin, e_cmp, e_chain, e_and, e_or, e_not, e_ite, e_neg, e_idx, e_slc, e_rev, e_bi, e_isi, e_alloc, e_olen, e_oidx, e_oin, s_skip, s_seq, s_expr, s_set, s_par, s_own, s_app, s_setR, s_ife, s_ret, s_frz, s_raise, rb_ok, rs_nx, rs_rt, startE, finish, List.map_cons, List.map_nil, List.cons_append, List.nil_append, List.length_cons, List.length_nil, List.replicate, List.getElem?_cons_zero, List.getElem?_cons_succ, List.set_cons_zero, List.set_cons_succ, packOf, partE, condE, evT, rT, rI, rB, rD, flat, if_true, if_false, ↓reduceIte, Bool.false_eq_true, Nat.reduceAdd, Nat.reduceSub, bindT, bindAll, wipeE, bindOwn, ownOf, pBin, pCmp, Bool.not_true, Bool.not_false, Option.map_some, e2, hz]
        · simp only [List.getElem?_cons_succ, List.getElem?_cons_zero, Option.some.injEq] at hd
          subst hd
          simp (config := {decide := false}) only [e_var, e_k, e_glob, e_nil, e_cons, e_tup, e_lst, e_call, e_bin, e_cmp, e_chain, e_and, e_or, e_not, e_ite, e_neg, e_idx, e_slc, e_rev, e_bi, e_isi, e_alloc, e_olen, e_oidx, e_oin, s_skip, s_seq, s_expr, s_set, s_par, s_own, s_app, s_setR, s_ife, s_ret, s_frz, s_raise, rb_ok, rs_nx, rs_rt, startE, finish, List.map_cons, List.map_nil, List.cons_append, List.nil_append, List.length_cons, List.length_nil, List.replicate, List.getElem?_cons_zero, List.getElem?_cons_succ, List.set_cons_zero, List.set_cons_succ, packOf, partE, condE, evT, rT, rI, rB, rD, flat, if_true, if_false, ↓reduceIte, Bool.false_eq_true, Nat.reduceAdd, Nat.reduceSub, bindT, bindAll, wipeE, bindOwn, ownOf, pBin, pCmp, Bool.not_true, Bool.not_false, Option.map_some, e2, hz]
      · rcases List.mem_append.mp hz with hz | hz
        · exact p1 z hz
        · rw [List.mem_singleton.mp hz]; exact gy)
  rw [(rg_nat cnt (by omega)).2] at p3
  exact ⟨ys, b5, μ', e, p1, p3.mono (by omega), p4⟩
def RowD (d : D) : Prop := ∃ bs, d = .tup bs ∧ bs.length = 3 ∧ ∀ b ∈ bs, isBlD b = true
theorem rowD_good {N : Nat} (hN : 3 ≤ N) {d : D} (h : RowD d) : good N d = true ∧ lev 1 d = true := by
  obtain ⟨bs, rfl, l, hb⟩ := h
  have hb' : ∀ b ∈ bs, good N b = true ∧ lev 0 b = true := fun b h => by
    have := hb b h
    cases b <;> first | exact ⟨rfl, rfl⟩ | cases this
  refine ⟨good_tup.mpr ⟨by omega, fun b h => (hb' b h).1⟩, ?_⟩
  have : bs.all (lev 0) = true := List.all_eq_true.mpr fun t h => (hb' t h).2
  simp [lev, this]
/-- rows drawn -/
theorem rows39 {r n : Nat} {μ : Store} {m : Int} {a0 a2 a4 a5 a6 a7 a8 a9 a10 : Sl} (h1 : 1 ≤ m) (h2 : m ≤ 3) (b : Bag (n + 10) r μ) :
    ∃ rs μ', evalS Φ d_law_1_5 [a0, .val (.ref r), a2, .val (.int m), a4, a5, a6, a7, a8, a9, a10] μ = .ok (.nx, [a0, .val (.ref r), a2, .val (.int m), a4, a5, .val (.tup rs), a7, a8, a9, a10], μ') ∧ rs.length ≤ 3 ∧ (∀ x ∈ rs, RowD x) ∧ Bag n r μ' ∧ Fr r μ μ' := by
  obtain ⟨v, μ1, e1, v0, v1, b1, f1⟩ := take39 (n := n + 9) b (m := m + 1) (by omega) (by omega)
  obtain ⟨j, rfl⟩ := Int.eq_ofNat_of_zero_le v0
  unfold d_law_1_5
  obtain ⟨ys, μ2, e2, l2, p2, b2, f2⟩ := many (f := tf Φ [9] [9] .nil (.bi .tuple (.cons (.comp [10] [10] .range (.cons (.k (.int 3)) .nil) .nil (.cmp .eq (.call "_law_take" (.cons (.var 1) (.cons (.k (.int 2)) .nil))) (.k (.int 0)))) .nil)) [a0, .val (.ref r), a2, .val (.int m), a4, a5, a6, a7, a8, a9, a10]) (r := r) 3 RowD (fun x μ j b => by
    obtain ⟨ys, μ2, e2, l2, p2, b2, f2⟩ := many (f := tf Φ [10] [10] .nil (.cmp .eq (.call "_law_take" (.cons (.var 1) (.cons (.k (.int 2)) .nil))) (.k (.int 0))) [a0, .val (.ref r), a2, .val (.int m), a4, a5, a6, a7, a8, .val x, a10]) (r := r) 1 (fun d => isBlD d = true) (fun x μ j b => by
      obtain ⟨v, μ1, e1, v0, v1, b1, f1⟩ := take39 b (m := 2) (by omega) (by omega)
      refine ⟨.bl (v == 0), μ1, ?_, rfl, b1, f1⟩
      unfold tf
      simp (config := {decide := false}) only [e_var, e_k, e_glob, e_nil, e_cons, e_tup, e_lst, e_call, e_bin, e_cmp, e_chain, e_and, e_or, e_not, e_ite, e_neg, e_idx, e_slc, e_rev, e_bi, e_isi, e_alloc, e_olen, e_oidx, e_oin, s_skip, s_seq, s_expr, s_set, s_par, s_own, s_app, s_setR, s_ife, s_ret, s_frz, s_raise, rb_ok, rs_nx, rs_rt, startE, finish, List.map_cons, List.map_nil, List.cons_append, List.nil_append, List.length_cons, List.length_nil, List.replicate, List.getElem?_cons_zero, List.getElem?_cons_succ, List.set_cons_zero, List.set_cons_succ, packOf, partE, condE, evT, rT, rI, rB, rD, flat, if_true, if_false, ↓reduceIte, Bool.false_eq_true, Nat.reduceAdd, Nat.reduceSub, bindT, bindAll, wipeE, bindOwn, ownOf, pBin, pCmp, Bool.not_true, Bool.not_false, Option.map_some, e1, eq_ii]) (rg 0 (3 : Nat)) j μ (b.mono (by rw [(rg_nat 3 (by omega)).2]; omega))
    rw [(rg_nat 3 (by omega)).2] at l2
    refine ⟨.tup ys, μ2, ?_, ⟨ys, rfl, l2, p2⟩, b2, f2⟩
    have hc := ev_comp (Φ := Φ) (own := [10]) (tg := [10]) (kd := .range) (src := .cons (.k (.int 3)) .nil) (cnd := .nil) (elt := .cmp .eq (.call "_law_take" (.cons (.var 1) (.cons (.k (.int 2)) .nil))) (.k (.int 0)))
      (δ := [a0, .val (.ref r), a2, .val (.int m), a4, a5, a6, a7, a8, .val x, a10]) (μ := μ) (μ0 := μ) (d := .tup [.int 3]) (by simp (config := {decide := false}) only [e_var, e_k, e_glob, e_nil, e_cons, e_tup, e_lst, e_call, e_bin, e_cmp, e_chain, e_and, e_or, e_not, e_ite, e_neg, e_idx, e_slc, e_rev, e_bi, e_isi, e_alloc, e_olen, e_oidx, e_oin, s_skip, s_seq, s_expr, s_set, s_par, s_own, s_app, s_setR, s_ife, s_ret, s_frz, s_raise, rb_ok, rs_nx, rs_rt, startE, finish, List.map_cons, List.map_nil, List.cons_append, List.nil_append, List.length_cons, List.length_nil, List.replicate, List.getElem?_cons_zero, List.getElem?_cons_succ, List.set_cons_zero, List.set_cons_succ, packOf, partE, condE, evT, rT, rI, rB, rD, flat, if_true, if_false, ↓reduceIte, Bool.false_eq_true, Nat.reduceAdd, Nat.reduceSub, bindT, bindAll, wipeE, bindOwn, ownOf, pBin, pCmp, Bool.not_true, Bool.not_false, Option.map_some]) (pSrc_rg (m := 3) (by omega)) e2
    unfold tf
    simp (config := {decide := false}) only [e_var, e_k, e_glob, e_nil, e_cons, e_tup, e_lst, e_call, e_bin, e_cmp, e_chain, e_and, e_or, e_not, e_ite, e_neg, e_idx, e_slc, e_rev, e_bi, e_isi, e_alloc, e_olen, e_oidx, e_oin, s_skip, s_seq, s_expr, s_set, s_par, s_own, s_app, s_setR, s_ife, s_ret, s_frz, s_raise, rb_ok, rs_nx, rs_rt, startE, finish, List.map_cons, List.map_nil, List.cons_append, List.nil_append, List.length_cons, List.length_nil, List.replicate, List.getElem?_cons_zero, List.getElem?_cons_succ, List.set_cons_zero, List.set_cons_succ, packOf, partE, condE, evT, rT, rI, rB, rD, flat, if_true, if_false, ↓reduceIte, Bool.false_eq_true, Nat.reduceAdd, Nat.reduceSub, bindT, bindAll, wipeE, bindOwn, ownOf, pBin, pCmp, Bool.not_true, Bool.not_false, Option.map_some, hc, tuple_lst]) (rg 0 (j : Int)) n μ1 (b1.mono (by rw [(rg_nat j (by omega)).2]; omega))
  rw [(rg_nat j (by omega)).2] at l2
  refine ⟨ys, μ2, ?_, by omega, p2, b2, f1.trans f2⟩
  have hc := ev_comp (Φ := Φ) (own := [9]) (tg := [9]) (kd := .range) (src := .cons (.call "_law_take" (.cons (.var 1) (.cons (.bin .add (.var 3) (.k (.int 1))) .nil))) .nil) (cnd := .nil) (elt := .bi .tuple (.cons (.comp [10] [10] .range (.cons (.k (.int 3)) .nil) .nil (.cmp .eq (.call "_law_take" (.cons (.var 1) (.cons (.k (.int 2)) .nil))) (.k (.int 0)))) .nil))
    (δ := [a0, .val (.ref r), a2, .val (.int m), a4, a5, a6, a7, a8, a9, a10]) (μ := μ) (d := .tup [.int (j : Int)]) (by simp (config := {decide := false}) only [e_var, e_k, e_glob, e_nil, e_cons, e_tup, e_lst, e_call, e_bin, e_cmp, e_chain, e_and, e_or, e_not, e_ite, e_neg, e_idx, e_slc, e_rev, e_bi, e_isi, e_alloc, e_olen, e_oidx, e_oin, s_skip, s_seq, s_expr, s_set, s_par, s_own, s_app, s_setR, s_ife, s_ret, s_frz, s_raise, rb_ok, rs_nx, rs_rt, startE, finish, List.map_cons, List.map_nil, List.cons_append, List.nil_append, List.length_cons, List.length_nil, List.replicate, List.getElem?_cons_zero, List.getElem?_cons_succ, List.set_cons_zero, List.set_cons_succ, packOf, partE, condE, evT, rT, rI, rB, rD, flat, if_true, if_false, ↓reduceIte, Bool.false_eq_true, Nat.reduceAdd, Nat.reduceSub, bindT, bindAll, wipeE, bindOwn, ownOf, pBin, pCmp, Bool.not_true, Bool.not_false, Option.map_some, e1, add_ii]) (pSrc_rg (m := j) (by omega)) e2
  simp (config := {decide := false}) only [e_var, e_k, e_glob, e_nil, e_cons, e_tup, e_lst, e_call, e_bin, e_cmp, e_chain, e_and, e_or, e_not, e_ite, e_neg, e_idx, e_slc, e_rev, e_bi, e_isi, e_alloc, e_olen, e_oidx, e_oin, s_skip, s_seq, s_expr, s_set, s_par, s_own, s_app, s_setR, s_ife, s_ret, s_frz, s_raise, rb_ok, rs_nx, rs_rt, startE, finish, List.map_cons, List.map_nil, List.cons_append, List.nil_append, List.length_cons, List.length_nil, List.replicate, List.getElem?_cons_zero, List.getElem?_cons_succ, List.set_cons_zero, List.set_cons_succ, packOf, partE, condE, evT, rT, rI, rB, rD, flat, if_true, if_false, ↓reduceIte, Bool.false_eq_true, Nat.reduceAdd, Nat.reduceSub, bindT, bindAll, wipeE, bindOwn, ownOf, pBin, pCmp, Bool.not_true, Bool.not_false, Option.map_some, hc, tuple_lst]
end SC.P

set_option Elab.async false
set_option linter.all false
set_option maxRecDepth 100000
/-! P01e: the law k01, plain: the end. -/
namespace SC.P
open PySem L2 SC.k01
theorem g_USUAL : globD "USUAL" = some (.tup [.tup [.tup (strD ["hide"]), .str (Str.ofString "unchoose")], .tup [.tup (strD ["go", "main"]), .str (Str.ofString "next")]]) := rfl
theorem filter_none (xs : List D) : (xs.filterMap fun x => if (fun _ : D => true) x = true then none else some (D.int 1)) = [] := by
  induction xs with
  | nil => rfl
  | cons x xs ih => simp
/-- nothing is told otherwise -/
theorem same_rules {μ : Store} {xs : List D} {a0 a1 a2 a3 a5 a6 a7 a8 a9 a10 : Sl} (hx : ∀ x ∈ xs, good 21 x = true) : evalS Φ d_law_1_4 [a0, a1, a2, a3, .own xs, a5, a6, a7, a8, a9, a10] μ = .ok (.nx, [a0, a1, a2, a3, .val (.lst xs), a5, a6, a7, a8, a9, a10], μ) := by
  have hc := ev_comp (Φ := Φ) (own := [8]) (tg := [8]) (kd := .plain) (src := .cons (.var 4) .nil) (cnd := .not (.call "_law_same" (.cons (.call "is_rule" (.cons (.var 8) .nil)) (.cons (.call "_law_is_rule" (.cons (.var 8) .nil)) .nil)))) (elt := .k (.int 1))
    (δ := [a0, a1, a2, a3, .val (.lst xs), a5, a6, a7, a8, a9, a10]) (μ := μ) (μ0 := μ) (d := .tup [.lst xs]) (by simp (config := {decide := false}) only [e_var, e_k, e_glob, e_nil, e_cons, e_tup, e_lst, e_call, e_bin, e_cmp, e_chain, e_and, e_or, e_not, e_ite, e_neg, e_idx, e_slc, e_rev, e_bi, e_isi, e_alloc, e_olen, e_oidx, e_oin, s_skip, s_seq, s_expr, s_set, s_par, s_own, s_app, s_setR, s_ife, s_ret, s_frz, s_raise, rb_ok, rs_nx, rs_rt, startE, finish, List.map_cons, List.map_nil, List.cons_append, List.nil_append, List.length_cons, List.length_nil, List.replicate, List.getElem?_cons_zero, List.getElem?_cons_succ, List.set_cons_zero, List.set_cons_succ, packOf, partE, condE, evT, rT, rI, rB, rD, flat, if_true, if_false, ↓reduceIte, Bool.false_eq_true, Nat.reduceAdd, Nat.reduceSub, bindT, bindAll, wipeE, bindOwn, ownOf, pBin, pCmp, Bool.not_true, Bool.not_false, Option.map_some]) src_lst (comp_not (fun _ => true) xs fun t ht => by
      have e1 : Φ "is_rule" [t] μ = .ok (.bl (isRule t), μ) := is_rule t0 (k := 36) (hx t ht)
      have e2 : Φ "_law_is_rule" [t] μ = .ok (.bl (isRule t), μ) := lis_rule t0 (k := 36) (hx t ht)
      have e3 : Φ "_law_same" [.bl (isRule t), .bl (isRule t)] μ = .ok (.bl (isRule t == isRule t), μ) := same_bl t0 (k := 38)
      unfold tf
      simp (config := {decide := false}) only [e_var, e_k, e_glob, e_nil, e_cons, e_tup, e_lst, e_call, e_bin, e_cmp, e_chain, e_and, e_or, e_not, e_ite, e_neg, e_idx, e_slc, e_rev, e_bi, e_isi, e_alloc, e_olen, e_oidx, e_oin, s_skip, s_seq, s_expr, s_set, s_par, s_own, s_app, s_setR, s_ife, s_ret, s_frz, s_raise, rb_ok, rs_nx, rs_rt, startE, finish, List.map_cons, List.map_nil, List.cons_append, List.nil_append, List.length_cons, List.length_nil, List.replicate, List.getElem?_cons_zero, List.getElem?_cons_succ, List.set_cons_zero, List.set_cons_succ, packOf, partE, condE, evT, rT, rI, rB, rD, flat, if_true, if_false, ↓reduceIte, Bool.false_eq_true, Nat.reduceAdd, Nat.reduceSub, bindT, bindAll, wipeE, bindOwn, ownOf, pBin, pCmp, Bool.not_true, Bool.not_false, Option.map_some, e1, e2, e3, BEq.rfl])
  have e := ne_ones (μ := μ) (xs := xs) (p := fun _ => true)
  have ea : (xs.all fun _ => true) = true := by simp
  rw [ea] at e
  generalize (xs.filterMap fun x => if (fun _ : D => true) x = true then none else some (D.int 1)) = ys at hc e
  unfold d_law_1_4
  simp (config := {decide := false}) only [e_var, e_k, e_glob, e_nil, e_cons, e_tup, e_lst, e_call, e_bin, e_cmp, e_chain, e_and, e_or, e_not, e_ite, e_neg, e_idx, e_slc, e_rev, e_bi, e_isi, e_alloc, e_olen, e_oidx, e_oin, s_skip, s_seq, s_expr, s_set, s_par, s_own, s_app, s_setR, s_ife, s_ret, s_frz, s_raise, rb_ok, rs_nx, rs_rt, startE, finish, List.map_cons, List.map_nil, List.cons_append, List.nil_append, List.length_cons, List.length_nil, List.replicate, List.getElem?_cons_zero, List.getElem?_cons_succ, List.set_cons_zero, List.set_cons_succ, packOf, partE, condE, evT, rT, rI, rB, rD, flat, if_true, if_false, ↓reduceIte, Bool.false_eq_true, Nat.reduceAdd, Nat.reduceSub, bindT, bindAll, wipeE, bindOwn, ownOf, pBin, pCmp, Bool.not_true, Bool.not_false, Option.map_some, hc, e]
theorem same_stands {μ : Store} {m : Int} {xs : List D} {a0 a1 a2 a5 a6 a7 a8 a9 a10 : Sl} (h1 : 1 ≤ m) (h2 : m ≤ 3) (hx : ∀ x ∈ xs, good 21 x = true) : evalS Φ d_law_1_9 [a0, a1, a2, .val (.int m), .own xs, a5, a6, a7, a8, a9, a10] μ = .ok (.nx, [a0, a1, a2, .val (.int m), .val (.lst xs), a5, a6, a7, a8, a9, a10], μ) := by
  have hc := ev_comp (Φ := Φ) (own := [8]) (tg := [8]) (kd := .plain) (src := .cons (.var 4) .nil) (cnd := .not (.call "_law_same" (.cons (.call "is_stand" (.cons (.var 3) (.cons (.var 8) .nil))) (.cons (.call "_law_is_stand" (.cons (.var 3) (.cons (.var 8) .nil))) .nil)))) (elt := .k (.int 1))
    (δ := [a0, a1, a2, .val (.int m), .val (.lst xs), a5, a6, a7, a8, a9, a10]) (μ := μ) (μ0 := μ) (d := .tup [.lst xs]) (by simp (config := {decide := false}) only [e_var, e_k, e_glob, e_nil, e_cons, e_tup, e_lst, e_call, e_bin, e_cmp, e_chain, e_and, e_or, e_not, e_ite, e_neg, e_idx, e_slc, e_rev, e_bi, e_isi, e_alloc, e_olen, e_oidx, e_oin, s_skip, s_seq, s_expr, s_set, s_par, s_own, s_app, s_setR, s_ife, s_ret, s_frz, s_raise, rb_ok, rs_nx, rs_rt, startE, finish, List.map_cons, List.map_nil, List.cons_append, List.nil_append, List.length_cons, List.length_nil, List.replicate, List.getElem?_cons_zero, List.getElem?_cons_succ, List.set_cons_zero, List.set_cons_succ, packOf, partE, condE, evT, rT, rI, rB, rD, flat, if_true, if_false, ↓reduceIte, Bool.false_eq_true, Nat.reduceAdd, Nat.reduceSub, bindT, bindAll, wipeE, bindOwn, ownOf, pBin, pCmp, Bool.not_true, Bool.not_false, Option.map_some]) src_lst (comp_not (fun _ => true) xs fun t ht => by
      have e1 : Φ "is_stand" [.int m, t] μ = .ok (.bl (isStand m t), μ) := is_stand t0 (k := 36) h1 h2 (hx t ht)
      have e2 : Φ "_law_is_stand" [.int m, t] μ = .ok (.bl (isStand m t), μ) := lis_stand t0 (k := 38) (hx t ht)
      have e3 : Φ "_law_same" [.bl (isStand m t), .bl (isStand m t)] μ = .ok (.bl (isStand m t == isStand m t), μ) := same_bl t0 (k := 38)
      unfold tf
      simp (config := {decide := false}) only [e_var, e_k, e_glob, e_nil, e_cons, e_tup, e_lst, e_call, e_bin, e_cmp, e_chain, e_and, e_or, e_not, e_ite, e_neg, e_idx, e_slc, e_rev, e_bi, e_isi, e_alloc, e_olen, e_oidx, e_oin, s_skip, s_seq, s_expr, s_set, s_par, s_own, s_app, s_setR, s_ife, s_ret, s_frz, s_raise, rb_ok, rs_nx, rs_rt, startE, finish, List.map_cons, List.map_nil, List.cons_append, List.nil_append, List.length_cons, List.length_nil, List.replicate, List.getElem?_cons_zero, List.getElem?_cons_succ, List.set_cons_zero, List.set_cons_succ, packOf, partE, condE, evT, rT, rI, rB, rD, flat, if_true, if_false, ↓reduceIte, Bool.false_eq_true, Nat.reduceAdd, Nat.reduceSub, bindT, bindAll, wipeE, bindOwn, ownOf, pBin, pCmp, Bool.not_true, Bool.not_false, Option.map_some, e1, e2, e3, BEq.rfl])
  have e := ne_ones (μ := μ) (xs := xs) (p := fun _ => true)
  have ea : (xs.all fun _ => true) = true := by simp
  rw [ea] at e
  generalize (xs.filterMap fun x => if (fun _ : D => true) x = true then none else some (D.int 1)) = ys at hc e
  unfold d_law_1_9
  simp (config := {decide := false}) only [e_var, e_k, e_glob, e_nil, e_cons, e_tup, e_lst, e_call, e_bin, e_cmp, e_chain, e_and, e_or, e_not, e_ite, e_neg, e_idx, e_slc, e_rev, e_bi, e_isi, e_alloc, e_olen, e_oidx, e_oin, s_skip, s_seq, s_expr, s_set, s_par, s_own, s_app, s_setR, s_ife, s_ret, s_frz, s_raise, rb_ok, rs_nx, rs_rt, startE, finish, List.map_cons, List.map_nil, List.cons_append, List.nil_append, List.length_cons, List.length_nil, List.replicate, List.getElem?_cons_zero, List.getElem?_cons_succ, List.set_cons_zero, List.set_cons_succ, packOf, partE, condE, evT, rT, rI, rB, rD, flat, if_true, if_false, ↓reduceIte, Bool.false_eq_true, Nat.reduceAdd, Nat.reduceSub, bindT, bindAll, wipeE, bindOwn, ownOf, pBin, pCmp, Bool.not_true, Bool.not_false, Option.map_some, hc, e]
theorem stand_good {rs : List D} {i : Int} (l : rs.length ≤ 4) (hr : ∀ x ∈ rs, RowD x) : good 20 (.tup [.tup rs, .int i]) = true ∧ lev 3 (.tup [.tup rs, .int i]) = true := by
  constructor
  · refine good_tup.mpr ⟨by simp, fun x hx => ?_⟩
    simp only [List.mem_cons, List.not_mem_nil, or_false] at hx
    rcases hx with rfl | rfl
    · exact good_tup.mpr ⟨by omega, fun t h => (rowD_good (by omega) (hr t h)).1⟩
    · rfl
  · have : rs.all (lev 1) = true := List.all_eq_true.mpr fun t h => (rowD_good (N := 3) (by omega) (hr t h)).2
    simp [lev, this]
def cO : D := .tup [.tup [.str (Str.ofString "only")], .str (Str.ofString "next")]
def cO4 : D := .tup [.tup (rep [.str (Str.ofString "only")] 4), .str (Str.ofString "next")]
theorem turn {r n : Nat} {μ : Store} {a0 a1 a2 a3 a4 a5 a6 a7 a8 a9 a10 : Sl} (b : Bag (n + 1000) r μ) :
    ∃ b2 b3 b4 b5 b6 b7 μ', lf Φ [1] (.seq d_law_1_1 (.seq d_law_1_2 (.seq d_law_1_3 (.seq d_law_1_4 (.seq d_law_1_5 (.seq d_law_1_6 (.seq d_law_1_7 (.seq d_law_1_8 d_law_1_9)))))))) (.ref r) [a0, a1, a2, a3, a4, a5, a6, a7, a8, a9, a10] μ = .ok (.nx, [a0, .val (.ref r), b2, b3, b4, b5, b6, b7, a8, a9, a10], μ') ∧ Fr r μ μ' := by
  have e0 : (8 : Int) = ((8 : Nat) : Int) := rfl
  obtain ⟨R, μ1, e1, hR, b1, f1⟩ : ∃ R μ', Φ "_law_rule" [.ref r, .int 8] μ = .ok (R, μ') ∧ RuleD 8 R ∧ Bag (n + 900) r μ' ∧ Fr r μ μ' := (rule t0 (k := 35) (m := 8) (n := n + 900) (by omega) (b.mono (by omega))).ex
  obtain ⟨gR, lR⟩ := ruleD_good (N := 20) (by omega) (by omega) hR
  obtain ⟨v, μ2, e2, v0, v1, b2, f2⟩ := take39 (n := n + 899) b1 (m := 3) (by omega) (by omega)
  have hm1 : (1 : Int) ≤ 1 + v := by omega
  have hm2 : 1 + v ≤ 3 := by omega
  generalize hm : 1 + v = m at hm1 hm2
  have s1 : evalS Φ d_law_1_1 [a0, .val (.ref r), a2, a3, a4, a5, a6, a7, a8, a9, a10] μ = .ok (.nx, [a0, .val (.ref r), .val R, .val (.int m), a4, a5, a6, a7, a8, a9, a10], μ2) := by
    unfold d_law_1_1
    simp (config := {decide := false}) only [e_var, e_k, e_glob, e_nil, e_cons, e_tup, e_lst, e_call, e_bin, e_cmp, e_chain, e_and, e_or, e_not, e_ite, e_neg, e_idx, e_slc, e_rev, e_bi, e_isi, e_alloc, e_olen, e_oidx, e_oin, s_skip, s_seq, s_expr, s_set, s_par, s_own, s_app, s_setR, s_ife, s_ret, s_frz, s_raise, rb_ok, rs_nx, rs_rt, startE, finish, List.map_cons, List.map_nil, List.cons_append, List.nil_append, List.length_cons, List.length_nil, List.replicate, List.getElem?_cons_zero, List.getElem?_cons_succ, List.set_cons_zero, List.set_cons_succ, packOf, partE, condE, evT, rT, rI, rB, rD, flat, if_true, if_false, ↓reduceIte, Bool.false_eq_true, Nat.reduceAdd, Nat.reduceSub, bindT, bindAll, wipeE, bindOwn, ownOf, pBin, pCmp, Bool.not_true, Bool.not_false, Option.map_some, e1, e2, add_ii, hm]
  obtain ⟨cs, rfl, lc, hc⟩ := hR
  have gO : ClauseD cO := ⟨[.str (Str.ofString "only")], "next", rfl, by simp, fun t h => by
    rw [List.mem_singleton] at h
    subst h
    exact ⟨_, by decide +kernel, rfl⟩, by decide⟩
  have gO' := (clauseD_good (N := 20) (by omega) gO).1
  have gO4 : good 20 cO4 = true := by decide +kernel
  have k9 : (9 : Int) - (cs.length : Int) = ((9 - cs.length : Nat) : Int) := by omega
  have gt : ∀ ys : List D, ys.length ≤ 20 → (∀ y ∈ ys, good 20 y = true) → good 21 (.tup ys) = true := fun ys h1 h2 => good_mono (by omega) _ (good_tup.mpr ⟨h1, h2⟩)
  have gcs := (good_tup.mp gR).2
  have lr9 : (rep [cO] (9 - (cs.length : Int))).length ≤ 9 := by rw [len_rep]; simp
  obtain ⟨xs, s2, gx, lx⟩ : ∃ xs, evalS Φ d_law_1_2 [a0, .val (.ref r), .val (.tup cs), .val (.int m), a4, a5, a6, a7, a8, a9, a10] μ2 = .ok (.nx, [a0, .val (.ref r), .val (.tup cs), .val (.int m), .own xs, a5, a6, a7, a8, a9, a10], μ2) ∧ (∀ x ∈ xs, good 21 x = true) ∧ xs.length ≤ 4 := by
    refine ⟨[.tup cs, .tup (cs ++ rep [cO] (9 - (cs.length : Int))), .tup (cs ++ [cO4]), .tup [.tup [.tup (strD ["hide"]), .str (Str.ofString "unchoose")], .tup [.tup (strD ["go", "main"]), .str (Str.ofString "next")]]], ?_, fun x hx => ?_, by simp⟩
    · have hsub : pBin .sub μ2 (.int 9) (.int (cs.length : Int)) = some (.int (9 - (cs.length : Int))) := rfl
      have hmul : pMul (.tup [cO]) (.int (9 - (cs.length : Int))) = some (.tup (rep [cO] (9 - (cs.length : Int)))) := mul_ti (by omega) (by omega) (by simp; omega)
      have hmul4 : pMul (.tup [.str (Str.ofString "only")]) (.int 4) = some (.tup (rep [.str (Str.ofString "only")] 4)) := mul_ti (by omega) (by omega) (by simp)
      have ha1 := add_tt (μ := μ2) (xs := cs) (ys := rep [cO] (9 - (cs.length : Int))) (by omega)
      have ha2 := add_tt (μ := μ2) (xs := cs) (ys := [cO4]) (by simp; omega)
      unfold cO at hmul ha1
      unfold cO4 at ha2
      unfold d_law_1_2
      simp (config := {decide := false}) only [e_var, e_k, e_glob, e_nil, e_cons, e_tup, e_lst, e_call, e_bin, e_cmp, e_chain, e_and, e_or, e_not, e_ite, e_neg, e_idx, e_slc, e_rev, e_bi, e_isi, e_alloc, e_olen, e_oidx, e_oin, s_skip, s_seq, s_expr, s_set, s_par, s_own, s_app, s_setR, s_ife, s_ret, s_frz, s_raise, rb_ok, rs_nx, rs_rt, startE, finish, List.map_cons, List.map_nil, List.cons_append, List.nil_append, List.length_cons, List.length_nil, List.replicate, List.getElem?_cons_zero, List.getElem?_cons_succ, List.set_cons_zero, List.set_cons_succ, packOf, partE, condE, evT, rT, rI, rB, rD, flat, if_true, if_false, ↓reduceIte, Bool.false_eq_true, Nat.reduceAdd, Nat.reduceSub, bindT, bindAll, wipeE, bindOwn, ownOf, pBin, pCmp, Bool.not_true, Bool.not_false, Option.map_some, len_t, hmul, hmul4, ha1, ha2, g_USUAL]
      rfl
    · simp only [List.mem_cons, List.not_mem_nil, or_false] at hx
      rcases hx with rfl | rfl | rfl | rfl
      · exact good_mono (by omega) _ gR
      · refine gt _ (by rw [List.length_append]; omega) fun y hy => ?_
        rcases List.mem_append.mp hy with hy | hy
        · exact gcs y hy
        · rw [List.mem_singleton.mp (mem_rep hy)]; exact gO'
      · refine gt _ (by simp; omega) fun y hy => ?_
        rcases List.mem_append.mp hy with hy | hy
        · exact gcs y hy
        · rw [List.mem_singleton.mp hy]; exact gO4
      · decide +kernel
  obtain ⟨ys, b5, μ3, s3, gy, b3, f3⟩ := app_loop (n := n + 600) (μ := μ2) (j := 2) (d := .tup cs) (xs := xs) (a0 := a0) (a2 := .val (.tup cs)) (a3 := .val (.int m)) (a5 := a5) (a6 := a6) (a7 := a7) (a8 := a8) (a9 := a9) (a10 := a10) (cnt := 20) (src := 20) rfl (by omega) rfl (.inl rfl) lR gR gx lx (b2.mono (by omega))
  have s3 : evalS Φ d_law_1_3 [a0, .val (.ref r), .val (.tup cs), .val (.int m), .own xs, a5, a6, a7, a8, a9, a10] μ2 = .ok (.nx, [a0, .val (.ref r), .val (.tup cs), .val (.int m), .own ys, b5, a6, a7, a8, a9, a10], μ3) := s3
  have s4 := same_rules (μ := μ3) (xs := ys) (a0 := a0) (a1 := .val (.ref r)) (a2 := .val (.tup cs)) (a3 := .val (.int m)) (a5 := b5) (a6 := a6) (a7 := a7) (a8 := a8) (a9 := a9) (a10 := a10) gy
  obtain ⟨rs, μ4, s5, lr, hr, b4, f4⟩ := rows39 (n := n + 590) (μ := μ3) (m := m) (r := r) (a0 := a0) (a2 := .val (.tup cs)) (a4 := .val (.lst ys)) (a5 := b5) (a6 := a6) (a7 := a7) (a8 := a8) (a9 := a9) (a10 := a10) hm1 hm2 (b3.mono (by omega))
  obtain ⟨w, μ5, e6, w0, w1, b6, f6⟩ := take39 (n := n + 589) b4 (m := (rs.length : Int) + 1) (by omega) (by omega)
  have s6 : evalS Φ d_law_1_6 [a0, .val (.ref r), .val (.tup cs), .val (.int m), .val (.lst ys), b5, .val (.tup rs), a7, a8, a9, a10] μ4 = .ok (.nx, [a0, .val (.ref r), .val (.tup cs), .val (.int m), .val (.lst ys), b5, .val (.tup rs), .val (.tup [.tup rs, .int (w - 1)]), a8, a9, a10], μ5) := by
    have hsub : pBin .sub μ5 (.int w) (.int 1) = some (.int (w - 1)) := rfl
    unfold d_law_1_6
    simp (config := {decide := false}) only [e_var, e_k, e_glob, e_nil, e_cons, e_tup, e_lst, e_call, e_bin, e_cmp, e_chain, e_and, e_or, e_not, e_ite, e_neg, e_idx, e_slc, e_rev, e_bi, e_isi, e_alloc, e_olen, e_oidx, e_oin, s_skip, s_seq, s_expr, s_set, s_par, s_own, s_app, s_setR, s_ife, s_ret, s_frz, s_raise, rb_ok, rs_nx, rs_rt, startE, finish, List.map_cons, List.map_nil, List.cons_append, List.nil_append, List.length_cons, List.length_nil, List.replicate, List.getElem?_cons_zero, List.getElem?_cons_succ, List.set_cons_zero, List.set_cons_succ, packOf, partE, condE, evT, rT, rI, rB, rD, flat, if_true, if_false, ↓reduceIte, Bool.false_eq_true, Nat.reduceAdd, Nat.reduceSub, bindT, bindAll, wipeE, bindOwn, ownOf, pBin, pCmp, Bool.not_true, Bool.not_false, Option.map_some, len_t, add_ii, e6]
  obtain ⟨gS, lS⟩ := stand_good (rs := rs) (i := w - 1) (by omega) hr
  have row0 : RowD (.tup [.bl true, .bl false, .bl false]) := ⟨_, rfl, rfl, fun b hb => by
    simp only [List.mem_cons, List.not_mem_nil, or_false] at hb
    rcases hb with rfl | rfl | rfl <;> rfl⟩
  obtain ⟨zs, s7, gz, lz⟩ : ∃ xs, evalS Φ d_law_1_7 [a0, .val (.ref r), .val (.tup cs), .val (.int m), .val (.lst ys), b5, .val (.tup rs), .val (.tup [.tup rs, .int (w - 1)]), a8, a9, a10] μ5 = .ok (.nx, [a0, .val (.ref r), .val (.tup cs), .val (.int m), .own xs, b5, .val (.tup rs), .val (.tup [.tup rs, .int (w - 1)]), a8, a9, a10], μ5) ∧ (∀ x ∈ xs, good 21 x = true) ∧ xs.length ≤ 4 := by
    refine ⟨[.tup [.tup rs, .int (w - 1)], .tup [.tup (rs ++ [.tup [.bl true, .bl false, .bl false]]), .int (-1)], .tup [.tup rs, .int rs.length], .tup [.tup rs, .int (-2)]], ?_, fun x hx => ?_, by simp⟩
    · have ha1 := add_tt (μ := μ5) (xs := rs) (ys := [.tup [.bl true, .bl false, .bl false]]) (by simp; omega)
      unfold d_law_1_7
      simp (config := {decide := false}) only [e_var, e_k, e_glob, e_nil, e_cons, e_tup, e_lst, e_call, e_bin, e_cmp, e_chain, e_and, e_or, e_not, e_ite, e_neg, e_idx, e_slc, e_rev, e_bi, e_isi, e_alloc, e_olen, e_oidx, e_oin, s_skip, s_seq, s_expr, s_set, s_par, s_own, s_app, s_setR, s_ife, s_ret, s_frz, s_raise, rb_ok, rs_nx, rs_rt, startE, finish, List.map_cons, List.map_nil, List.cons_append, List.nil_append, List.length_cons, List.length_nil, List.replicate, List.getElem?_cons_zero, List.getElem?_cons_succ, List.set_cons_zero, List.set_cons_succ, packOf, partE, condE, evT, rT, rI, rB, rD, flat, if_true, if_false, ↓reduceIte, Bool.false_eq_true, Nat.reduceAdd, Nat.reduceSub, bindT, bindAll, wipeE, bindOwn, ownOf, pBin, pCmp, Bool.not_true, Bool.not_false, Option.map_some, len_t, ha1]
    · simp only [List.mem_cons, List.not_mem_nil, or_false] at hx
      rcases hx with rfl | rfl | rfl | rfl
      · exact good_mono (by omega) _ gS
      · refine good_mono (by omega) _ (stand_good (rs := rs ++ [.tup [.bl true, .bl false, .bl false]]) (i := -1) (by simp; omega) fun x hx => ?_).1
        rcases List.mem_append.mp hx with hx | hx
        · exact hr x hx
        · rw [List.mem_singleton.mp hx]; exact row0
      · exact good_mono (by omega) _ (stand_good (i := rs.length) (by omega) hr).1
      · exact good_mono (by omega) _ (stand_good (i := -2) (by omega) hr).1
  obtain ⟨us, c5, μ6, s8, gu, b8, f8⟩ := app_loop (n := n) (μ := μ5) (j := 7) (d := .tup [.tup rs, .int (w - 1)]) (xs := zs) (a0 := a0) (a2 := .val (.tup cs)) (a3 := .val (.int m)) (a5 := b5) (a6 := .val (.tup rs)) (a7 := .val (.tup [.tup rs, .int (w - 1)])) (a8 := a8) (a9 := a9) (a10 := a10) (cnt := 15) (src := 15) rfl (by omega) rfl (.inr rfl) lS gS gz lz (b6.mono (by omega))
  have s8 : evalS Φ d_law_1_8 [a0, .val (.ref r), .val (.tup cs), .val (.int m), .own zs, b5, .val (.tup rs), .val (.tup [.tup rs, .int (w - 1)]), a8, a9, a10] μ5 = .ok (.nx, [a0, .val (.ref r), .val (.tup cs), .val (.int m), .own us, c5, .val (.tup rs), .val (.tup [.tup rs, .int (w - 1)]), a8, a9, a10], μ6) := s8
  have s9 := same_stands (μ := μ6) (m := m) (xs := us) (a0 := a0) (a1 := .val (.ref r)) (a2 := .val (.tup cs)) (a5 := c5) (a6 := .val (.tup rs)) (a7 := .val (.tup [.tup rs, .int (w - 1)])) (a8 := a8) (a9 := a9) (a10 := a10) hm1 hm2 gu
  refine ⟨.val (.tup cs), .val (.int m), .val (.lst us), c5, .val (.tup rs), .val (.tup [.tup rs, .int (w - 1)]), μ6, ?_, ((((f1.trans f2).trans f3).trans f4).trans f6).trans f8⟩
  unfold lf
  simp (config := {decide := false}) only [e_var, e_k, e_glob, e_nil, e_cons, e_tup, e_lst, e_call, e_bin, e_cmp, e_chain, e_and, e_or, e_not, e_ite, e_neg, e_idx, e_slc, e_rev, e_bi, e_isi, e_alloc, e_olen, e_oidx, e_oin, s_skip, s_seq, s_expr, s_set, s_par, s_own, s_app, s_setR, s_ife, s_ret, s_frz, s_raise, rb_ok, rs_nx, rs_rt, startE, finish, List.map_cons, List.map_nil, List.cons_append, List.nil_append, List.length_cons, List.length_nil, List.replicate, List.getElem?_cons_zero, List.getElem?_cons_succ, List.set_cons_zero, List.set_cons_succ, packOf, partE, condE, evT, rT, rI, rB, rD, flat, if_true, if_false, ↓reduceIte, Bool.false_eq_true, Nat.reduceAdd, Nat.reduceSub, bindT, bindAll, wipeE, bindOwn, ownOf, pBin, pCmp, Bool.not_true, Bool.not_false, Option.map_some, s1, s2, s3, s4, s5, s6, s7, s8, s9]
theorem law_k01 (ns : List Int) (hl : ns.length ≤ 63) : ∃ μ', callN T 40 "law" [.scr (ns.map D.int)] [] = .ok (.bl true, μ') := by
  rw [call_eq (n := 39) t_law rfl]
  obtain ⟨n, μ1, e1, l1, n1, p1⟩ : ∃ (n : Nat) (μ' : Store), Φ "_law_bags" [.scr (ns.map D.int), .int 8] [] = .ok (.lst ((List.range n).map D.ref), μ') ∧ μ'.length = n ∧ n ≤ 64 ∧ ∀ r, r < n → Bag (2 ^ 62) r μ' := bags t0 (k := 37) (m := 8) (by omega) hl
  have hl1 := s_loop (Φ := Φ) (tg := [1]) (kd := .plain) (src := .cons (.call "_law_bags" (.cons (.var 0) (.cons (.k (.int 8)) .nil))) .nil) (body := .seq d_law_1_1 (.seq d_law_1_2 (.seq d_law_1_3 (.seq d_law_1_4 (.seq d_law_1_5 (.seq d_law_1_6 (.seq d_law_1_7 (.seq d_law_1_8 d_law_1_9))))))))
    (δ := [.val (.scr (ns.map D.int)), .no, .no, .no, .no, .no, .no, .no, .no, .no, .no]) (μ := []) (μ0 := μ1) (d := .tup [.lst ((List.range n).map D.ref)]) (by simp (config := {decide := false}) only [e_var, e_k, e_glob, e_nil, e_cons, e_tup, e_lst, e_call, e_bin, e_cmp, e_chain, e_and, e_or, e_not, e_ite, e_neg, e_idx, e_slc, e_rev, e_bi, e_isi, e_alloc, e_olen, e_oidx, e_oin, s_skip, s_seq, s_expr, s_set, s_par, s_own, s_app, s_setR, s_ife, s_ret, s_frz, s_raise, rb_ok, rs_nx, rs_rt, startE, finish, List.map_cons, List.map_nil, List.cons_append, List.nil_append, List.length_cons, List.length_nil, List.replicate, List.getElem?_cons_zero, List.getElem?_cons_succ, List.set_cons_zero, List.set_cons_succ, packOf, partE, condE, evT, rT, rI, rB, rD, flat, if_true, if_false, ↓reduceIte, Bool.false_eq_true, Nat.reduceAdd, Nat.reduceSub, bindT, bindAll, wipeE, bindOwn, ownOf, pBin, pCmp, Bool.not_true, Bool.not_false, Option.map_some, e1]) src_lst
  obtain ⟨δ', μ2, e2, q⟩ := for_run (F := lf Φ [1] (.seq d_law_1_1 (.seq d_law_1_2 (.seq d_law_1_3 (.seq d_law_1_4 (.seq d_law_1_5 (.seq d_law_1_6 (.seq d_law_1_7 (.seq d_law_1_8 d_law_1_9)))))))))
    (fun i δ μ => (∃ a1 a2 a3 a4 a5 a6 a7, δ = [.val (.scr (ns.map D.int)), a1, a2, a3, a4, a5, a6, a7, .no, .no, .no]) ∧ ∀ r, i ≤ r → r < n → Bag (2 ^ 62) r μ) ((List.range n).map D.ref) 0 _ μ1 ⟨⟨.no, .no, .no, .no, .no, .no, .no, rfl⟩, fun r _ h => p1 r h⟩ (fun i x δ μ hx ⟨⟨a1, a2, a3, a4, a5, a6, a7, e⟩, p⟩ => by
      subst e
      have hi : i < n := by
        have := (List.getElem?_eq_some_iff.mp hx).1
        simpa using this
      have ex : x = .ref i := by
        rw [List.getElem?_map, List.getElem?_range hi] at hx
        cases hx
        rfl
      subst ex
      obtain ⟨b2, b3, b4, b5, b6, b7, μ', e, f⟩ := turn (n := 0) (r := i) (μ := μ) (a0 := .val (.scr (ns.map D.int))) (a1 := a1) (a2 := a2) (a3 := a3) (a4 := a4) (a5 := a5) (a6 := a6) (a7 := a7) (a8 := .no) (a9 := .no) (a10 := .no) ((p i (by omega) hi).mono (by omega))
      refine ⟨_, μ', e, ⟨_, _, _, _, _, _, _, rfl⟩, fun r h1 h2 => ?_⟩
      obtain ⟨a, b, c, e3, hc⟩ := p r (by omega) h2
      exact ⟨a, b, c, by rw [f.at_ r (by omega)]; exact e3, hc⟩)
  refine ⟨μ2, ?_⟩
  obtain ⟨⟨a1, a2, a3, a4, a5, a6, a7, rfl⟩, _⟩ := q
  show finish (evalS Φ (.seq (.loop [1] .plain (.cons (.call "_law_bags" (.cons (.var 0) (.cons (.k (.int 8)) .nil))) .nil) (.seq d_law_1_1 (.seq d_law_1_2 (.seq d_law_1_3 (.seq d_law_1_4 (.seq d_law_1_5 (.seq d_law_1_6 (.seq d_law_1_7 (.seq d_law_1_8 d_law_1_9))))))))) (.ret (.k (.bl true)))) (startE 11 [.scr (ns.map D.int)]) []) = _
  simp (config := {decide := false}) only [e_var, e_k, e_glob, e_nil, e_cons, e_tup, e_lst, e_call, e_bin, e_cmp, e_chain, e_and, e_or, e_not, e_ite, e_neg, e_idx, e_slc, e_rev, e_bi, e_isi, e_alloc, e_olen, e_oidx, e_oin, s_skip, s_seq, s_expr, s_set, s_par, s_own, s_app, s_setR, s_ife, s_ret, s_frz, s_raise, rb_ok, rs_nx, rs_rt, startE, finish, List.map_cons, List.map_nil, List.cons_append, List.nil_append, List.length_cons, List.length_nil, List.replicate, List.getElem?_cons_zero, List.getElem?_cons_succ, List.set_cons_zero, List.set_cons_succ, packOf, partE, condE, evT, rT, rI, rB, rD, flat, if_true, if_false, ↓reduceIte, Bool.false_eq_true, Nat.reduceAdd, Nat.reduceSub, bindT, bindAll, wipeE, bindOwn, ownOf, pBin, pCmp, Bool.not_true, Bool.not_false, Option.map_some, hl1, e2]
end SC.P

set_option Elab.async false
set_option linter.all false
set_option maxRecDepth 100000
set_option maxHeartbeats 4000000
namespace SC.k01
open PySem PySem.Spec PyProof.Rows L2
def top (i : Nat) : Stmt := PySem.Challenge.pw_staychosen_k01_rules_and_stands_recogniz.main.body.getD i (.Pass ⟨0, 0, 0, 0⟩)
structure Glo (K : PySem.W.Frag) (mg : Str → Option Value) : Prop where
  b_all : mg "all" = none
  b_bool : mg "bool" = none
  b_enumerate : mg "enumerate" = none
  b_int : mg "int" = none
  b_isinstance : mg "isinstance" = none
  b_len : mg "len" = none
  b_list : mg "list" = none
  b_range : mg "range" = none
  b_str : mg "str" = none
  b_tuple : mg "tuple" = none
  b_zip : mg "zip" = none
  c_DEEDS : Cst K mg "DEEDS" "DEEDS"
  c_MOST_CLAUSES : Cst K mg "MOST_CLAUSES" "MOST_CLAUSES"
  c_TESTS : Cst K mg "TESTS" "TESTS"
  c_USUAL : Cst K mg "USUAL" "USUAL"
structure Fs (P : Program) (w : World) (K : PySem.W.Frag) (mg : Str → Option Value) (base : Heap) (k : Nat) : Prop where
  f_is_one_of : FnC P w K mg base CX0 k (callN T k) "is_one_of" "is_one_of" 2
  f_is_test : FnC P w K mg base CX0 k (callN T k) "is_test" "is_test" 1
  f_is_clause : FnC P w K mg base CX0 k (callN T k) "is_clause" "is_clause" 1
  f_is_rule : FnC P w K mg base CX0 k (callN T k) "is_rule" "is_rule" 1
  f_is_within : FnC P w K mg base CX0 k (callN T k) "is_within" "is_within" 3
  f_look_at_most : FnC P w K mg base CX0 k (callN T k) "look_at_most" "look_at_most" 1
  f_is_row : FnC P w K mg base CX0 k (callN T k) "is_row" "is_row" 1
  f_fits : FnC P w K mg base CX0 k (callN T k) "fits" "fits" 2
  f_is_stand : FnC P w K mg base CX0 k (callN T k) "is_stand" "is_stand" 2
  f__law_well : FnC P w K mg base CX0 k (callN T k) "_law_well" "_law_well" 2
  f__law_take : FnC P w K mg base CX0 k (callN T k) "_law_take" "_law_take" 2
  f__law_bags : FnC P w K mg base CX0 k (callN T k) "_law_bags" "_law_bags" 2
  f__law_same : FnC P w K mg base CX0 k (callN T k) "_law_same" "_law_same" 2
  f__law_tests : FnC P w K mg base CX0 k (callN T k) "_law_tests" "_law_tests" 0
  f__law_deeds : FnC P w K mg base CX0 k (callN T k) "_law_deeds" "_law_deeds" 0
  f__law_test : FnC P w K mg base CX0 k (callN T k) "_law_test" "_law_test" 1
  f__law_clause : FnC P w K mg base CX0 k (callN T k) "_law_clause" "_law_clause" 1
  f__law_known : FnC P w K mg base CX0 k (callN T k) "_law_known" "_law_known" 1
  f__law_rule : FnC P w K mg base CX0 k (callN T k) "_law_rule" "_law_rule" 2
  f__law_is_clause : FnC P w K mg base CX0 k (callN T k) "_law_is_clause" "_law_is_clause" 1
  f__law_is_rule : FnC P w K mg base CX0 k (callN T k) "_law_is_rule" "_law_is_rule" 1
  f__law_is_stand : FnC P w K mg base CX0 k (callN T k) "_law_is_stand" "_law_is_stand" 2
  f__law_odd : FnC P w K mg base CX0 k (callN T k) "_law_odd" "_law_odd" 2
  f_law : FnC P w K mg base CX0 k (callN T k) "law" "law" 1
section
variable {P : Program} {w : World} {K : PySem.W.Frag} {mg : Str → Option Value} {base : Heap} {k : Nat} {fd : FuncData} {fa : Addr}
abbrev st_is_one_of : Stmt := top 8
theorem sc_is_one_of : FnScope ["value", "some"] ["value", "some"] (defScope st_is_one_of) := ⟨rfl, rfl, rfl, by decide +kernel, rfl, by decide +kernel, by decide +kernel⟩
theorem ok_is_one_of (G : Glo K mg) (F : Fs P w K mg base k) (D : FunD K "is_one_of" "is_one_of" (defArgs st_is_one_of) (defBody st_is_one_of) (defScope st_is_one_of) [] [] fa fd) : FnOk P w K mg base CX0 (k + 1) fa fd ["value", "some"] (spF K (callN T (k + 1)) "is_one_of" 2) :=
  fn_ok (d := d_is_one_of) D sc_is_one_of (t_is_one_of t0) rfl rfl rfl fun cdv A outer s H E en hr =>
    have hN := sc_is_one_of.nd
    have hu := hu_of2 hr
    (sss_one (ss_ret (se_and (se_isi G.b_isinstance se_var (pa_cons (pe_tyn G.b_str bt_str) pa_nil)) (se_one (se_cmp .isin hu se_var se_var)))))
abbrev st_is_test : Stmt := top 9
theorem sc_is_test : FnScope ["value"] ["value"] (defScope st_is_test) := ⟨rfl, rfl, rfl, by decide +kernel, rfl, by decide +kernel, by decide +kernel⟩
theorem ok_is_test (G : Glo K mg) (F : Fs P w K mg base k) (D : FunD K "is_test" "is_test" (defArgs st_is_test) (defBody st_is_test) (defScope st_is_test) [] [] fa fd) : FnOk P w K mg base CX0 (k + 1) fa fd ["value"] (spF K (callN T (k + 1)) "is_test" 1) :=
  fn_ok (d := d_is_test) D sc_is_test (t_is_test t0) rfl rfl rfl fun cdv A outer s H E en hr =>
    have hN := sc_is_test.nd
    have hu := hu_of2 hr
    (sss_cons (ss_if (st_not (st_val (se_isi G.b_isinstance se_var (pa_cons (pe_tyn G.b_str bt_str) pa_nil)))) (sss_one (ss_ret se_bl)) sss_nil)
    (sss_one (ss_ret (se_or (se_cmp .isin hu se_var (se_glob G.c_TESTS)) (se_one (se_and (se_cmp .eq hu (se_slc se_var so_none (so_some se_int)) se_str) (se_one (se_cmp .isin hu (se_slc se_var (so_some se_int) so_none) (se_glob G.c_TESTS)))))))))
abbrev st_is_clause : Stmt := top 10
theorem sc_is_clause : FnScope ["value", "test"] ["value"] (defScope st_is_clause) := ⟨rfl, rfl, rfl, by decide +kernel, rfl, by decide +kernel, by decide +kernel⟩
theorem ok_is_clause (G : Glo K mg) (F : Fs P w K mg base k) (D : FunD K "is_clause" "is_clause" (defArgs st_is_clause) (defBody st_is_clause) (defScope st_is_clause) [] [] fa fd) : FnOk P w K mg base CX0 (k + 1) fa fd ["value"] (spF K (callN T (k + 1)) "is_clause" 1) :=
  fn_ok (d := d_is_clause) D sc_is_clause (t_is_clause t0) rfl rfl rfl fun cdv A outer s H E en hr =>
    have hN := sc_is_clause.nd
    have hu := hu_of2 hr
    (sss_cons (ss_if (st_w (sw_or (st_not (st_val (se_isi G.b_isinstance se_var (pa_cons (pe_tyn G.b_tuple bt_tuple) pa_nil)))) (sw_or (st_cmp .ne hu (se_bi .len (cb_len) G.b_len bt_len (sa_cons se_var sa_nil)) se_int) (sw_or1 (st_not (st_val (se_isi G.b_isinstance (se_idx se_var se_int) (pa_cons (pe_tyn G.b_tuple bt_tuple) pa_nil)))))))) (sss_one (ss_ret se_bl)) sss_nil)
    (sss_one (ss_ret (se_and (se_cmp .le hu (se_bi .len (cb_len) G.b_len bt_len (sa_cons (se_idx se_var se_int) sa_nil)) se_int) (se_and (se_bi .all (cb_all rfl) G.b_all bt_all (sa_cons (se_comp [("test", 1)] rfl hN (si_plain (se_idx se_var se_int)) (blkOk_by (by kernel_rfl)) (fun _ _ _ _ _ => (sg_name hN)) (fun _ _ _ _ _ => sts_nil) (fun _ _ _ _ _ => (se_call F.f_is_test hr pass0 (sa_cons se_var sa_nil)))) sa_nil)) (se_one (se_call F.f_is_one_of hr pass0 (sa_cons (se_idx se_var se_int) (sa_cons (se_glob G.c_DEEDS) sa_nil)))))))))
abbrev st_is_rule : Stmt := top 11
theorem sc_is_rule : FnScope ["value", "clause"] ["value"] (defScope st_is_rule) := ⟨rfl, rfl, rfl, by decide +kernel, rfl, by decide +kernel, by decide +kernel⟩
theorem ok_is_rule (G : Glo K mg) (F : Fs P w K mg base k) (D : FunD K "is_rule" "is_rule" (defArgs st_is_rule) (defBody st_is_rule) (defScope st_is_rule) [] [] fa fd) : FnOk P w K mg base CX0 (k + 1) fa fd ["value"] (spF K (callN T (k + 1)) "is_rule" 1) :=
  fn_ok (d := d_is_rule) D sc_is_rule (t_is_rule t0) rfl rfl rfl fun cdv A outer s H E en hr =>
    have hN := sc_is_rule.nd
    have hu := hu_of2 hr
    (sss_one (ss_ret (se_and (se_isi G.b_isinstance se_var (pa_cons (pe_tyn G.b_tuple bt_tuple) pa_nil)) (se_and (se_cmp .le hu (se_bi .len (cb_len) G.b_len bt_len (sa_cons se_var sa_nil)) (se_glob G.c_MOST_CLAUSES)) (se_one (se_bi .all (cb_all rfl) G.b_all bt_all (sa_cons (se_comp [("clause", 1)] rfl hN (si_plain se_var) (blkOk_by (by kernel_rfl)) (fun _ _ _ _ _ => (sg_name hN)) (fun _ _ _ _ _ => sts_nil) (fun _ _ _ _ _ => (se_call F.f_is_clause hr pass0 (sa_cons se_var sa_nil)))) sa_nil)))))))
abbrev st_is_within : Stmt := top 13
theorem sc_is_within : FnScope ["value", "low", "high"] ["value", "low", "high"] (defScope st_is_within) := ⟨rfl, rfl, rfl, by decide +kernel, rfl, by decide +kernel, by decide +kernel⟩
theorem ok_is_within (G : Glo K mg) (F : Fs P w K mg base k) (D : FunD K "is_within" "is_within" (defArgs st_is_within) (defBody st_is_within) (defScope st_is_within) [] [] fa fd) : FnOk P w K mg base CX0 (k + 1) fa fd ["value", "low", "high"] (spF K (callN T (k + 1)) "is_within" 3) :=
  fn_ok (d := d_is_within) D sc_is_within (t_is_within t0) rfl rfl rfl fun cdv A outer s H E en hr =>
    have hN := sc_is_within.nd
    have hu := hu_of2 hr
    (sss_one (ss_ret (se_and (se_isi G.b_isinstance se_var (pa_cons (pe_tyn G.b_int bt_int) pa_nil)) (se_and (se_not (se_isi G.b_isinstance se_var (pa_cons (pe_tyn G.b_bool bt_bool) pa_nil))) (se_one (se_chain .le .le hu se_var se_var se_var))))))
abbrev st_look_at_most : Stmt := top 14
theorem sc_look_at_most : FnScope ["most"] ["most"] (defScope st_look_at_most) := ⟨rfl, rfl, rfl, by decide +kernel, rfl, by decide +kernel, by decide +kernel⟩
theorem ok_look_at_most (G : Glo K mg) (F : Fs P w K mg base k) (D : FunD K "look_at_most" "look_at_most" (defArgs st_look_at_most) (defBody st_look_at_most) (defScope st_look_at_most) [] [] fa fd) : FnOk P w K mg base CX0 (k + 1) fa fd ["most"] (spF K (callN T (k + 1)) "look_at_most" 1) :=
  fn_ok (d := d_look_at_most) D sc_look_at_most (t_look_at_most t0) rfl rfl rfl fun cdv A outer s H E en hr =>
    have hN := sc_look_at_most.nd
    have hu := hu_of2 hr
    (sss_one (ss_if (st_not (st_val (se_call F.f_is_within hr pass0 (sa_cons se_var (sa_cons se_int (sa_cons se_int sa_nil)))))) (sss_one ss_raise) sss_nil))
abbrev st_is_row : Stmt := top 15
theorem sc_is_row : FnScope ["value", "part"] ["value"] (defScope st_is_row) := ⟨rfl, rfl, rfl, by decide +kernel, rfl, by decide +kernel, by decide +kernel⟩
theorem ok_is_row (G : Glo K mg) (F : Fs P w K mg base k) (D : FunD K "is_row" "is_row" (defArgs st_is_row) (defBody st_is_row) (defScope st_is_row) [] [] fa fd) : FnOk P w K mg base CX0 (k + 1) fa fd ["value"] (spF K (callN T (k + 1)) "is_row" 1) :=
  fn_ok (d := d_is_row) D sc_is_row (t_is_row t0) rfl rfl rfl fun cdv A outer s H E en hr =>
    have hN := sc_is_row.nd
    have hu := hu_of2 hr
    (sss_one (ss_ret (se_and (se_isi G.b_isinstance se_var (pa_cons (pe_tyn G.b_tuple bt_tuple) pa_nil)) (se_and (se_cmp .eq hu (se_bi .len (cb_len) G.b_len bt_len (sa_cons se_var sa_nil)) se_int) (se_one (se_bi .all (cb_all rfl) G.b_all bt_all (sa_cons (se_comp [("part", 1)] rfl hN (si_plain se_var) (blkOk_by (by kernel_rfl)) (fun _ _ _ _ _ => (sg_name hN)) (fun _ _ _ _ _ => sts_nil) (fun _ _ _ _ _ => (se_isi G.b_isinstance se_var (pa_cons (pe_tyn G.b_bool bt_bool) pa_nil)))) sa_nil)))))))
abbrev st_fits : Stmt := top 16
theorem sc_fits : FnScope ["most", "value", "row"] ["most", "value"] (defScope st_fits) := ⟨rfl, rfl, rfl, by decide +kernel, rfl, by decide +kernel, by decide +kernel⟩
theorem ok_fits (G : Glo K mg) (F : Fs P w K mg base k) (D : FunD K "fits" "fits" (defArgs st_fits) (defBody st_fits) (defScope st_fits) [] [] fa fd) : FnOk P w K mg base CX0 (k + 1) fa fd ["most", "value"] (spF K (callN T (k + 1)) "fits" 2) :=
  fn_ok (d := d_fits) D sc_fits (t_fits t0) rfl rfl rfl fun cdv A outer s H E en hr =>
    have hN := sc_fits.nd
    have hu := hu_of2 hr
    (sss_cons (ss_if (st_w (sw_or (st_not (st_val (se_isi G.b_isinstance se_var (pa_cons (pe_tyn G.b_tuple bt_tuple) pa_nil)))) (sw_or (st_cmp .ne hu (se_bi .len (cb_len) G.b_len bt_len (sa_cons se_var sa_nil)) se_int) (sw_or1 (st_not (st_val (se_isi G.b_isinstance (se_idx se_var se_int) (pa_cons (pe_tyn G.b_tuple bt_tuple) pa_nil)))))))) (sss_one (ss_ret se_bl)) sss_nil)
    (sss_cons (ss_if (st_w (sw_or (st_cmp .gt hu (se_bi .len (cb_len) G.b_len bt_len (sa_cons (se_idx se_var se_int) sa_nil)) se_var) (sw_or1 (st_not (st_val (se_bi .all (cb_all rfl) G.b_all bt_all (sa_cons (se_comp [("row", 2)] rfl hN (si_plain (se_idx se_var se_int)) (blkOk_by (by kernel_rfl)) (fun _ _ _ _ _ => (sg_name hN)) (fun _ _ _ _ _ => sts_nil) (fun _ _ _ _ _ => (se_call F.f_is_row hr pass0 (sa_cons se_var sa_nil)))) sa_nil))))))) (sss_one (ss_ret se_bl)) sss_nil)
    (sss_one (ss_ret (se_call F.f_is_within hr pass0 (sa_cons (se_idx se_var se_int) (sa_cons (se_neg se_int) (sa_cons (se_sub (se_bi .len (cb_len) G.b_len bt_len (sa_cons (se_idx se_var se_int) sa_nil)) se_int) sa_nil))))))))
abbrev st_is_stand : Stmt := top 17
theorem sc_is_stand : FnScope ["most", "value"] ["most", "value"] (defScope st_is_stand) := ⟨rfl, rfl, rfl, by decide +kernel, rfl, by decide +kernel, by decide +kernel⟩
theorem ok_is_stand (G : Glo K mg) (F : Fs P w K mg base k) (D : FunD K "is_stand" "is_stand" (defArgs st_is_stand) (defBody st_is_stand) (defScope st_is_stand) [] [] fa fd) : FnOk P w K mg base CX0 (k + 1) fa fd ["most", "value"] (spF K (callN T (k + 1)) "is_stand" 2) :=
  fn_ok (d := d_is_stand) D sc_is_stand (t_is_stand t0) rfl rfl rfl fun cdv A outer s H E en hr =>
    have hN := sc_is_stand.nd
    have hu := hu_of2 hr
    (sss_cons (ss_expr (se_call F.f_look_at_most hr pass0 (sa_cons se_var sa_nil)))
    (sss_one (ss_ret (se_call F.f_fits hr pass0 (sa_cons se_var (sa_cons se_var sa_nil))))))
abbrev st__law_well : Stmt := top 19
theorem sc__law_well : FnScope ["_law_cell", "_law_turn"] ["_law_cell", "_law_turn"] (defScope st__law_well) := ⟨rfl, rfl, rfl, by decide +kernel, rfl, by decide +kernel, by decide +kernel⟩
theorem ok__law_well (G : Glo K mg) (F : Fs P w K mg base k) (D : FunD K "_law_well" "_law_well" (defArgs st__law_well) (defBody st__law_well) (defScope st__law_well) [] [] fa fd) : FnOk P w K mg base CX0 (k + 1) fa fd ["_law_cell", "_law_turn"] (spF K (callN T (k + 1)) "_law_well" 2) :=
  fn_ok (d := d__law_well) D sc__law_well (t__law_well t0) rfl rfl rfl fun cdv A outer s H E en hr =>
    have hN := sc__law_well.nd
    have hu := hu_of2 hr
    (sss_cons (ss_if (st_cmp .ge hu se_var (se_pow se_int se_int)) (sss_one (ss_ret (se_alloc (fe_lst (sa_cons (se_sub se_var (se_pow se_int se_int)) (sa_cons (se_mod se_var se_int) (sa_cons se_var sa_nil))))))) sss_nil)
    (sss_one (ss_ret (se_alloc (fe_lst (sa_cons se_int (sa_cons (se_mod se_var se_int) (sa_cons se_var sa_nil))))))))
abbrev st__law_take : Stmt := top 20
theorem sc__law_take : FnScope ["_law_bag", "_law_many", "_law_found", "_law_p", "_law_n"] ["_law_bag", "_law_many"] (defScope st__law_take) := ⟨rfl, rfl, rfl, by decide +kernel, rfl, by decide +kernel, by decide +kernel⟩
theorem ok__law_take (G : Glo K mg) (F : Fs P w K mg base k) (D : FunD K "_law_take" "_law_take" (defArgs st__law_take) (defBody st__law_take) (defScope st__law_take) [] [] fa fd) : FnOk P w K mg base CX0 (k + 1) fa fd ["_law_bag", "_law_many"] (spF K (callN T (k + 1)) "_law_take" 2) :=
  fn_ok (d := d__law_take) D sc__law_take (t__law_take t0) rfl rfl rfl fun cdv A outer s H E en hr =>
    have hN := sc__law_take.nd
    have hu := hu_of2 hr
    (sss_cons (ss_if (st_cmp .gt hu (se_idx se_var se_int) se_int) (sss_cons (ss_set hN (se_mod (se_idx se_var se_int) se_var))
    (sss_cons (ss_setR (se_fdiv (se_idx se_var se_int) se_var) se_var se_int)
    (sss_one (ss_ret se_var)))) sss_nil)
    (sss_cons (ss_setR (se_add (se_idx se_var se_int) se_int) se_var se_int)
    (sss_cons (ss_set hN se_int)
    (sss_cons (ss_set hN (se_mod (se_add (se_idx se_var se_int) (se_mul se_int (se_idx se_var se_int))) se_var))
    (sss_cons (ss_set hN (se_mod (se_add (se_add (se_mul se_var se_var) (se_mul se_int (se_pow (se_idx se_var se_int) se_int))) se_int) se_var))
    (sss_one (ss_ret (se_mod (se_fdiv (se_mod (se_pow se_var se_int) se_var) se_int) se_var))))))))
abbrev st__law_bags : Stmt := top 21
theorem sc__law_bags : FnScope ["_law_script", "_law_most", "_law_k", "_law_cell"] ["_law_script", "_law_most"] (defScope st__law_bags) := ⟨rfl, rfl, rfl, by decide +kernel, rfl, by decide +kernel, by decide +kernel⟩
theorem ok__law_bags (G : Glo K mg) (F : Fs P w K mg base k) (D : FunD K "_law_bags" "_law_bags" (defArgs st__law_bags) (defBody st__law_bags) (defScope st__law_bags) [] [] fa fd) : FnOk P w K mg base CX0 (k + 1) fa fd ["_law_script", "_law_most"] (spF K (callN T (k + 1)) "_law_bags" 2) :=
  fn_ok (d := d__law_bags) D sc__law_bags (t__law_bags t0) rfl rfl rfl fun cdv A outer s H E en hr =>
    have hN := sc__law_bags.nd
    have hu := hu_of2 hr
    (sss_one (ss_ret (se_comp [("_law_k", 2), ("_law_cell", 3)] rfl hN (si_enum G.b_enumerate (se_add (se_slc se_var so_none (so_some se_var)) (se_lst (sa_cons se_int sa_nil)))) (blkOk_by (by kernel_rfl)) (fun _ _ _ _ _ => (sg_tup rfl (sgs_cons hN (sgs_cons hN sgs_nil)))) (fun _ _ _ _ _ => sts_nil) (fun _ _ _ _ _ => (se_call F.f__law_well hr pass0 (sa_cons se_var (sa_cons (se_mul se_int se_var) sa_nil)))))))
abbrev st__law_same : Stmt := top 22
theorem sc__law_same : FnScope ["_law_a", "_law_b", "_law_x", "_law_y"] ["_law_a", "_law_b"] (defScope st__law_same) := ⟨rfl, rfl, rfl, by decide +kernel, rfl, by decide +kernel, by decide +kernel⟩
theorem ok__law_same (G : Glo K mg) (F : Fs P w K mg base k) (D : FunD K "_law_same" "_law_same" (defArgs st__law_same) (defBody st__law_same) (defScope st__law_same) [] [] fa fd) : FnOk P w K mg base CX0 (k + 1) fa fd ["_law_a", "_law_b"] (spF K (callN T (k + 1)) "_law_same" 2) :=
  fn_ok (d := d__law_same) D sc__law_same (t__law_same t0) rfl rfl rfl fun cdv A outer s H E en hr =>
    have hN := sc__law_same.nd
    have hu := hu_of2 hr
    (sss_cons (ss_if (st_w (sw_or (st_w (sw_and (st_val (se_isi G.b_isinstance se_var (pa_cons (pe_tyn G.b_list bt_list) pa_nil))) (sw_and1 (st_val (se_isi G.b_isinstance se_var (pa_cons (pe_tyn G.b_list bt_list) pa_nil)))))) (sw_or1 (st_w (sw_and (st_val (se_isi G.b_isinstance se_var (pa_cons (pe_tyn G.b_tuple bt_tuple) pa_nil))) (sw_and1 (st_val (se_isi G.b_isinstance se_var (pa_cons (pe_tyn G.b_tuple bt_tuple) pa_nil))))))))) (sss_one (ss_ret (se_and (se_cmp .eq hu (se_bi .len (cb_len) G.b_len bt_len (sa_cons se_var sa_nil)) (se_bi .len (cb_len) G.b_len bt_len (sa_cons se_var sa_nil))) (se_one (se_bi .all (cb_all rfl) G.b_all bt_all (sa_cons (se_comp [("_law_x", 2), ("_law_y", 3)] rfl hN (si_zip G.b_zip se_var se_var) (blkOk_by (by kernel_rfl)) (fun _ _ _ _ _ => (sg_tup rfl (sgs_cons hN (sgs_cons hN sgs_nil)))) (fun _ _ _ _ _ => sts_nil) (fun _ _ _ _ _ => (se_call F.f__law_same hr pass0 (sa_cons se_var (sa_cons se_var sa_nil))))) sa_nil)))))) sss_nil)
    (sss_cons (ss_if (st_w (sw_or (st_val (se_isiT (es := []) G.b_isinstance se_var (pa_ty G.b_bool bt_bool (pa_ty G.b_list bt_list (pa_ty G.b_tuple bt_tuple pa_ty0))))) (sw_or1 (st_val (se_isiT (es := []) G.b_isinstance se_var (pa_ty G.b_bool bt_bool (pa_ty G.b_list bt_list (pa_ty G.b_tuple bt_tuple pa_ty0)))))))) (sss_one (ss_ret (se_and (se_isi G.b_isinstance se_var (pa_cons (pe_tyn G.b_bool bt_bool) pa_nil)) (se_and (se_isi G.b_isinstance se_var (pa_cons (pe_tyn G.b_bool bt_bool) pa_nil)) (se_one (se_cmp .eq hu se_var se_var)))))) sss_nil)
    (sss_cons (ss_if (st_w (sw_or (st_val (se_isi G.b_isinstance se_var (pa_cons (pe_tyn G.b_int bt_int) pa_nil))) (sw_or1 (st_val (se_isi G.b_isinstance se_var (pa_cons (pe_tyn G.b_int bt_int) pa_nil)))))) (sss_one (ss_ret (se_and (se_isi G.b_isinstance se_var (pa_cons (pe_tyn G.b_int bt_int) pa_nil)) (se_and (se_isi G.b_isinstance se_var (pa_cons (pe_tyn G.b_int bt_int) pa_nil)) (se_one (se_cmp .eq hu se_var se_var)))))) sss_nil)
    (sss_cons (ss_if (st_w (sw_or (st_val (se_isi G.b_isinstance se_var (pa_cons (pe_tyn G.b_str bt_str) pa_nil))) (sw_or1 (st_val (se_isi G.b_isinstance se_var (pa_cons (pe_tyn G.b_str bt_str) pa_nil)))))) (sss_one (ss_ret (se_and (se_isi G.b_isinstance se_var (pa_cons (pe_tyn G.b_str bt_str) pa_nil)) (se_and (se_isi G.b_isinstance se_var (pa_cons (pe_tyn G.b_str bt_str) pa_nil)) (se_one (se_cmp .eq hu se_var se_var)))))) sss_nil)
    (sss_one (ss_ret (se_and (se_isN se_var) (se_one (se_isN se_var)))))))))
abbrev st__law_tests : Stmt := top 23
theorem sc__law_tests : FnScope [] [] (defScope st__law_tests) := ⟨rfl, rfl, rfl, by decide +kernel, rfl, by decide +kernel, by decide +kernel⟩
theorem ok__law_tests (G : Glo K mg) (F : Fs P w K mg base k) (D : FunD K "_law_tests" "_law_tests" (defArgs st__law_tests) (defBody st__law_tests) (defScope st__law_tests) [] [] fa fd) : FnOk P w K mg base CX0 (k + 1) fa fd [] (spF K (callN T (k + 1)) "_law_tests" 0) :=
  fn_ok (d := d__law_tests) D sc__law_tests (t__law_tests t0) rfl rfl rfl fun cdv A outer s H E en hr =>
    have hN := sc__law_tests.nd
    have hu := hu_of2 hr
    (sss_one (ss_ret (se_lst (sa_cons se_str (sa_cons se_str (sa_cons se_str (sa_cons se_str (sa_cons se_str (sa_cons se_str (sa_cons se_str (sa_cons se_str (sa_cons se_str (sa_cons se_str sa_nil)))))))))))))
abbrev st__law_deeds : Stmt := top 24
theorem sc__law_deeds : FnScope [] [] (defScope st__law_deeds) := ⟨rfl, rfl, rfl, by decide +kernel, rfl, by decide +kernel, by decide +kernel⟩
theorem ok__law_deeds (G : Glo K mg) (F : Fs P w K mg base k) (D : FunD K "_law_deeds" "_law_deeds" (defArgs st__law_deeds) (defBody st__law_deeds) (defScope st__law_deeds) [] [] fa fd) : FnOk P w K mg base CX0 (k + 1) fa fd [] (spF K (callN T (k + 1)) "_law_deeds" 0) :=
  fn_ok (d := d__law_deeds) D sc__law_deeds (t__law_deeds t0) rfl rfl rfl fun cdv A outer s H E en hr =>
    have hN := sc__law_deeds.nd
    have hu := hu_of2 hr
    (sss_one (ss_ret (se_lst (sa_cons se_str (sa_cons se_str (sa_cons se_str (sa_cons se_str (sa_cons se_str (sa_cons se_str (sa_cons se_str sa_nil))))))))))
abbrev st__law_test : Stmt := top 25
theorem sc__law_test : FnScope ["_law_bag"] ["_law_bag"] (defScope st__law_test) := ⟨rfl, rfl, rfl, by decide +kernel, rfl, by decide +kernel, by decide +kernel⟩
theorem ok__law_test (G : Glo K mg) (F : Fs P w K mg base k) (D : FunD K "_law_test" "_law_test" (defArgs st__law_test) (defBody st__law_test) (defScope st__law_test) [] [] fa fd) : FnOk P w K mg base CX0 (k + 1) fa fd ["_law_bag"] (spF K (callN T (k + 1)) "_law_test" 1) :=
  fn_ok (d := d__law_test) D sc__law_test (t__law_test t0) rfl rfl rfl fun cdv A outer s H E en hr =>
    have hN := sc__law_test.nd
    have hu := hu_of2 hr
    (sss_one (ss_ret (se_add (se_idx (se_lst (sa_cons se_str (sa_cons se_str (sa_cons se_str sa_nil)))) (se_call F.f__law_take hr pass0 (sa_cons se_var (sa_cons se_int sa_nil)))) (se_idx (se_call0 F.f__law_tests hr pass0) (se_call F.f__law_take hr pass0 (sa_cons se_var (sa_cons se_int sa_nil)))))))
abbrev st__law_clause : Stmt := top 26
theorem sc__law_clause : FnScope ["_law_bag", "_law_tests_here", "_law_k"] ["_law_bag"] (defScope st__law_clause) := ⟨rfl, rfl, rfl, by decide +kernel, rfl, by decide +kernel, by decide +kernel⟩
theorem ok__law_clause (G : Glo K mg) (F : Fs P w K mg base k) (D : FunD K "_law_clause" "_law_clause" (defArgs st__law_clause) (defBody st__law_clause) (defScope st__law_clause) [] [] fa fd) : FnOk P w K mg base CX0 (k + 1) fa fd ["_law_bag"] (spF K (callN T (k + 1)) "_law_clause" 1) :=
  fn_ok (d := d__law_clause) D sc__law_clause (t__law_clause t0) rfl rfl rfl fun cdv A outer s H E en hr =>
    have hN := sc__law_clause.nd
    have hu := hu_of2 hr
    (sss_cons (ss_set hN (se_biT .tuple (cb_tuple) G.b_tuple bt_tuple (sa_cons (se_comp [("_law_k", 2)] rfl hN (si_range1 G.b_range (se_idx (se_lst (sa_cons se_int (sa_cons se_int (sa_cons se_int (sa_cons se_int (sa_cons se_int (sa_cons se_int sa_nil))))))) (se_call F.f__law_take hr pass0 (sa_cons se_var (sa_cons se_int sa_nil))))) (blkOk_by (by kernel_rfl)) (fun _ _ _ _ _ => (sg_name hN)) (fun _ _ _ _ _ => sts_nil) (fun _ _ _ _ _ => (se_call F.f__law_test hr pass0 (sa_cons se_var sa_nil)))) sa_nil)))
    (sss_one (ss_ret (se_tup (sa_cons se_var (sa_cons (se_idx (se_call0 F.f__law_deeds hr pass0) (se_call F.f__law_take hr pass0 (sa_cons se_var (sa_cons se_int sa_nil)))) sa_nil))))))
abbrev st__law_known : Stmt := top 27
theorem sc__law_known : FnScope ["_law_bag", "_law_some"] ["_law_bag"] (defScope st__law_known) := ⟨rfl, rfl, rfl, by decide +kernel, rfl, by decide +kernel, by decide +kernel⟩
theorem ok__law_known (G : Glo K mg) (F : Fs P w K mg base k) (D : FunD K "_law_known" "_law_known" (defArgs st__law_known) (defBody st__law_known) (defScope st__law_known) [] [] fa fd) : FnOk P w K mg base CX0 (k + 1) fa fd ["_law_bag"] (spF K (callN T (k + 1)) "_law_known" 1) :=
  fn_ok (d := d__law_known) D sc__law_known (t__law_known t0) rfl rfl rfl fun cdv A outer s H E en hr =>
    have hN := sc__law_known.nd
    have hu := hu_of2 hr
    (sss_cons (ss_own hN (fe_lst (sa_cons (se_tup (sa_cons (se_tup (sa_cons (se_tup (sa_cons se_str sa_nil)) (sa_cons se_str sa_nil))) (sa_cons (se_tup (sa_cons (se_tup (sa_cons se_str (sa_cons se_str sa_nil))) (sa_cons se_str sa_nil))) sa_nil))) (sa_cons (se_tup (sa_cons (se_tup (sa_cons (se_tup (sa_cons se_str (sa_cons se_str sa_nil))) (sa_cons se_str sa_nil))) sa_nil)) (sa_cons (se_tup sa_nil) sa_nil)))))
    (sss_cons (ss_app (se_tup (sa_cons (se_tup (sa_cons (se_tup (sa_cons se_str (sa_cons se_str sa_nil))) (sa_cons se_str sa_nil))) (sa_cons (se_tup (sa_cons (se_tup (sa_cons se_str sa_nil)) (sa_cons se_str sa_nil))) (sa_cons (se_tup (sa_cons (se_tup (sa_cons se_str (sa_cons se_str sa_nil))) (sa_cons se_str sa_nil))) sa_nil)))))
    (sss_cons (ss_app (se_tup (sa_cons (se_tup (sa_cons (se_tup (sa_cons se_str (sa_cons se_str sa_nil))) (sa_cons se_str sa_nil))) (sa_cons (se_tup (sa_cons (se_tup (sa_cons se_str (sa_cons se_str sa_nil))) (sa_cons se_str sa_nil))) (sa_cons (se_tup (sa_cons (se_tup (sa_cons se_str (sa_cons se_str sa_nil))) (sa_cons se_str sa_nil))) sa_nil)))))
    (sss_one (ss_ret (se_oidx (se_call F.f__law_take hr pass0 (sa_cons se_var (sa_cons se_int sa_nil)))))))))
abbrev st__law_rule : Stmt := top 28
theorem sc__law_rule : FnScope ["_law_bag", "_law_most", "_law_way", "_law_found", "_law_at", "_law_k"] ["_law_bag", "_law_most"] (defScope st__law_rule) := ⟨rfl, rfl, rfl, by decide +kernel, rfl, by decide +kernel, by decide +kernel⟩
theorem ok__law_rule (G : Glo K mg) (F : Fs P w K mg base k) (D : FunD K "_law_rule" "_law_rule" (defArgs st__law_rule) (defBody st__law_rule) (defScope st__law_rule) [] [] fa fd) : FnOk P w K mg base CX0 (k + 1) fa fd ["_law_bag", "_law_most"] (spF K (callN T (k + 1)) "_law_rule" 2) :=
  fn_ok (d := d__law_rule) D sc__law_rule (t__law_rule t0) rfl rfl rfl fun cdv A outer s H E en hr =>
    have hN := sc__law_rule.nd
    have hu := hu_of2 hr
    (sss_cons (ss_set hN (se_call F.f__law_take hr pass0 (sa_cons se_var (sa_cons se_int sa_nil))))
    (sss_cons (ss_if (st_cmp .eq hu se_var se_int) (sss_one (ss_ret (se_biT .tuple (cb_tuple) G.b_tuple bt_tuple (sa_cons (se_comp [("_law_k", 5)] rfl hN (si_range1 G.b_range (se_call F.f__law_take hr pass0 (sa_cons se_var (sa_cons (se_add se_var se_int) sa_nil)))) (blkOk_by (by kernel_rfl)) (fun _ _ _ _ _ => (sg_name hN)) (fun _ _ _ _ _ => sts_nil) (fun _ _ _ _ _ => (se_call F.f__law_clause hr pass0 (sa_cons se_var sa_nil)))) sa_nil)))) sss_nil)
    (sss_cons (ss_set hN (se_call F.f__law_known hr pass0 (sa_cons se_var sa_nil)))
    (sss_cons (ss_set hN (se_call F.f__law_take hr pass0 (sa_cons se_var (sa_cons (se_add (se_bi .len (cb_len) G.b_len bt_len (sa_cons se_var sa_nil)) se_int) sa_nil))))
    (sss_cons (ss_if (st_cmp .eq hu se_var se_int) (sss_one (ss_set hN (se_add (se_add (se_slc se_var so_none (so_some se_var)) (se_tup (sa_cons (se_call F.f__law_clause hr pass0 (sa_cons se_var sa_nil)) sa_nil))) (se_slc se_var (so_some se_var) so_none)))) (sss_one (ss_if (st_cmp .eq hu se_var se_int) (sss_one (ss_set hN (se_add (se_add (se_slc se_var so_none (so_some se_var)) (se_mul (se_tup (sa_cons (se_call F.f__law_clause hr pass0 (sa_cons se_var sa_nil)) sa_nil)) (se_call F.f__law_take hr pass0 (sa_cons se_var (sa_cons se_int sa_nil))))) (se_slc se_var (so_some (se_add se_var se_int)) so_none)))) sss_nil)))
    (sss_one (ss_ret (se_slc se_var so_none (so_some se_var)))))))))
abbrev st__law_is_clause : Stmt := top 29
theorem sc__law_is_clause : FnScope ["_law_value", "_law_words", "_law_word", "_law_test_here"] ["_law_value"] (defScope st__law_is_clause) := ⟨rfl, rfl, rfl, by decide +kernel, rfl, by decide +kernel, by decide +kernel⟩
theorem ok__law_is_clause (G : Glo K mg) (F : Fs P w K mg base k) (D : FunD K "_law_is_clause" "_law_is_clause" (defArgs st__law_is_clause) (defBody st__law_is_clause) (defScope st__law_is_clause) [] [] fa fd) : FnOk P w K mg base CX0 (k + 1) fa fd ["_law_value"] (spF K (callN T (k + 1)) "_law_is_clause" 1) :=
  fn_ok (d := d__law_is_clause) D sc__law_is_clause (t__law_is_clause t0) rfl rfl rfl fun cdv A outer s H E en hr =>
    have hN := sc__law_is_clause.nd
    have hu := hu_of2 hr
    (sss_cons (ss_set hN (se_add (se_call0 F.f__law_tests hr pass0) (se_comp [("_law_word", 2)] rfl hN (si_plain (se_call0 F.f__law_tests hr pass0)) (blkOk_by (by kernel_rfl)) (fun _ _ _ _ _ => (sg_name hN)) (fun _ _ _ _ _ => sts_nil) (fun _ _ _ _ _ => (se_add se_str se_var)))))
    (sss_cons (ss_if (st_w (sw_or (st_not (st_val (se_isi G.b_isinstance se_var (pa_cons (pe_tyn G.b_tuple bt_tuple) pa_nil)))) (sw_or (st_cmp .ne hu (se_bi .len (cb_len) G.b_len bt_len (sa_cons se_var sa_nil)) se_int) (sw_or (st_not (st_val (se_isi G.b_isinstance (se_idx se_var se_int) (pa_cons (pe_tyn G.b_tuple bt_tuple) pa_nil)))) (sw_or1 (st_cmp .gt hu (se_bi .len (cb_len) G.b_len bt_len (sa_cons (se_idx se_var se_int) sa_nil)) se_int)))))) (sss_one (ss_ret se_bl)) sss_nil)
    (sss_cons (ss_if (st_cmp .ne hu (se_comp [("_law_test_here", 3)] rfl hN (si_plain (se_idx se_var se_int)) (blkOk_by (by kernel_rfl)) (fun _ _ _ _ _ => (sg_name hN)) (fun _ _ _ _ _ => (sts_one (st_w (sw_or (st_not (st_val (se_isi G.b_isinstance se_var (pa_cons (pe_tyn G.b_str bt_str) pa_nil)))) (sw_or1 (st_cmp .notin hu se_var se_var)))))) (fun _ _ _ _ _ => se_int)) (se_lst sa_nil)) (sss_one (ss_ret se_bl)) sss_nil)
    (sss_one (ss_ret (se_and (se_isi G.b_isinstance (se_idx se_var se_int) (pa_cons (pe_tyn G.b_str bt_str) pa_nil)) (se_one (se_cmp .isin hu (se_idx se_var se_int) (se_call0 F.f__law_deeds hr pass0)))))))))
abbrev st__law_is_rule : Stmt := top 30
theorem sc__law_is_rule : FnScope ["_law_value", "_law_clause_here"] ["_law_value"] (defScope st__law_is_rule) := ⟨rfl, rfl, rfl, by decide +kernel, rfl, by decide +kernel, by decide +kernel⟩
theorem ok__law_is_rule (G : Glo K mg) (F : Fs P w K mg base k) (D : FunD K "_law_is_rule" "_law_is_rule" (defArgs st__law_is_rule) (defBody st__law_is_rule) (defScope st__law_is_rule) [] [] fa fd) : FnOk P w K mg base CX0 (k + 1) fa fd ["_law_value"] (spF K (callN T (k + 1)) "_law_is_rule" 1) :=
  fn_ok (d := d__law_is_rule) D sc__law_is_rule (t__law_is_rule t0) rfl rfl rfl fun cdv A outer s H E en hr =>
    have hN := sc__law_is_rule.nd
    have hu := hu_of2 hr
    (sss_cons (ss_if (st_w (sw_or (st_not (st_val (se_isi G.b_isinstance se_var (pa_cons (pe_tyn G.b_tuple bt_tuple) pa_nil)))) (sw_or1 (st_cmp .gt hu (se_bi .len (cb_len) G.b_len bt_len (sa_cons se_var sa_nil)) se_int)))) (sss_one (ss_ret se_bl)) sss_nil)
    (sss_one (ss_ret (se_cmp .eq hu (se_comp [("_law_clause_here", 1)] rfl hN (si_plain se_var) (blkOk_by (by kernel_rfl)) (fun _ _ _ _ _ => (sg_name hN)) (fun _ _ _ _ _ => (sts_one (st_not (st_val (se_call F.f__law_is_clause hr pass0 (sa_cons se_var sa_nil)))))) (fun _ _ _ _ _ => se_int)) (se_lst sa_nil)))))
abbrev st__law_is_stand : Stmt := top 31
theorem sc__law_is_stand : FnScope ["_law_room", "_law_value", "_law_row", "_law_main", "_law_part"] ["_law_room", "_law_value"] (defScope st__law_is_stand) := ⟨rfl, rfl, rfl, by decide +kernel, rfl, by decide +kernel, by decide +kernel⟩
theorem ok__law_is_stand (G : Glo K mg) (F : Fs P w K mg base k) (D : FunD K "_law_is_stand" "_law_is_stand" (defArgs st__law_is_stand) (defBody st__law_is_stand) (defScope st__law_is_stand) [] [] fa fd) : FnOk P w K mg base CX0 (k + 1) fa fd ["_law_room", "_law_value"] (spF K (callN T (k + 1)) "_law_is_stand" 2) :=
  fn_ok (d := d__law_is_stand) D sc__law_is_stand (t__law_is_stand t0) rfl rfl rfl fun cdv A outer s H E en hr =>
    have hN := sc__law_is_stand.nd
    have hu := hu_of2 hr
    (sss_cons (ss_if (st_w (sw_or (st_not (st_val (se_isi G.b_isinstance se_var (pa_cons (pe_tyn G.b_tuple bt_tuple) pa_nil)))) (sw_or (st_cmp .ne hu (se_bi .len (cb_len) G.b_len bt_len (sa_cons se_var sa_nil)) se_int) (sw_or (st_not (st_val (se_isi G.b_isinstance (se_idx se_var se_int) (pa_cons (pe_tyn G.b_tuple bt_tuple) pa_nil)))) (sw_or1 (st_cmp .gt hu (se_bi .len (cb_len) G.b_len bt_len (sa_cons (se_idx se_var se_int) sa_nil)) se_var)))))) (sss_one (ss_ret se_bl)) sss_nil)
    (sss_cons (ss_for PassesOwn.never rfl (si_plain (se_idx se_var se_int)) (sg_name hN) (sss_one (ss_if (st_w (sw_or (st_not (st_val (se_isi G.b_isinstance se_var (pa_cons (pe_tyn G.b_tuple bt_tuple) pa_nil)))) (sw_or (st_cmp .ne hu (se_bi .len (cb_len) G.b_len bt_len (sa_cons se_var sa_nil)) se_int) (sw_or1 (st_cmp .ne hu (se_comp [("_law_part", 4)] rfl hN (si_plain se_var) (blkOk_by (by kernel_rfl)) (fun _ _ _ _ _ => (sg_name hN)) (fun _ _ _ _ _ => (sts_one (st_not (st_val (se_isi G.b_isinstance se_var (pa_cons (pe_tyn G.b_bool bt_bool) pa_nil)))))) (fun _ _ _ _ _ => se_int)) (se_lst sa_nil)))))) (sss_one (ss_ret se_bl)) sss_nil)))
    (sss_cons (ss_set hN (se_idx se_var se_int))
    (sss_one (ss_ret (se_and (se_isi G.b_isinstance se_var (pa_cons (pe_tyn G.b_int bt_int) pa_nil)) (se_and (se_not (se_isi G.b_isinstance se_var (pa_cons (pe_tyn G.b_bool bt_bool) pa_nil))) (se_one (se_chain .le .lt hu (se_neg se_int) se_var (se_bi .len (cb_len) G.b_len bt_len (sa_cons (se_idx se_var se_int) sa_nil)))))))))))
abbrev st__law_odd : Stmt := top 32
theorem sc__law_odd : FnScope ["_law_bag", "_law_value", "_law_some", "_law_at", "_law_way"] ["_law_bag", "_law_value"] (defScope st__law_odd) := ⟨rfl, rfl, rfl, by decide +kernel, rfl, by decide +kernel, by decide +kernel⟩
theorem ok__law_odd (G : Glo K mg) (F : Fs P w K mg base k) (D : FunD K "_law_odd" "_law_odd" (defArgs st__law_odd) (defBody st__law_odd) (defScope st__law_odd) [] [] fa fd) : FnOk P w K mg base CX0 (k + 1) fa fd ["_law_bag", "_law_value"] (spF K (callN T (k + 1)) "_law_odd" 2) :=
  fn_ok (d := d__law_odd) D sc__law_odd t__law_odd rfl rfl rfl fun cdv A outer s H E en hr =>
    have hN := sc__law_odd.nd
    have hu := hu_of2 hr
    (sss_cons (ss_if (st_w (sw_or (st_not (st_val (se_isi G.b_isinstance se_var (pa_cons (pe_tyn G.b_tuple bt_tuple) pa_nil)))) (sw_or1 (st_cmp .eq hu (se_call F.f__law_take hr pass0 (sa_cons se_var (sa_cons se_int sa_nil))) se_int)))) (sss_cons (ss_set hN (se_lst (sa_cons se_non (sa_cons se_bl (sa_cons se_bl (sa_cons se_int (sa_cons se_int (sa_cons se_int (sa_cons (se_neg se_int) (sa_cons (se_pow se_int se_int) (sa_cons se_str (sa_cons se_str (sa_cons se_str (sa_cons se_str (sa_cons se_str (sa_cons se_str (sa_cons se_str (sa_cons se_str sa_nil))))))))))))))))))
    (sss_cons (ss_set hN (se_add se_var (se_lst (sa_cons se_str (sa_cons se_str (sa_cons se_str (sa_cons (se_tup sa_nil) (sa_cons (se_lst sa_nil) (sa_cons (se_tup (sa_cons se_str sa_nil)) (sa_cons (se_tup (sa_cons (se_tup sa_nil) (sa_cons se_str sa_nil))) (sa_cons (se_tup (sa_cons se_bl (sa_cons se_bl (sa_cons se_bl sa_nil)))) (sa_cons (se_tup (sa_cons se_int (sa_cons se_int (sa_cons se_int sa_nil)))) sa_nil))))))))))))
    (sss_one (ss_ret (se_idx se_var (se_call F.f__law_take hr pass0 (sa_cons se_var (sa_cons se_int sa_nil)))))))) sss_nil)
    (sss_cons (ss_par rfl hN (sa_cons (se_call F.f__law_take hr pass0 (sa_cons se_var (sa_cons (se_add (se_bi .len (cb_len) G.b_len bt_len (sa_cons se_var sa_nil)) se_int) sa_nil))) (sa_cons (se_call F.f__law_take hr pass0 (sa_cons se_var (sa_cons se_int sa_nil))) sa_nil)))
    (sss_cons (ss_if (st_cmp .eq hu se_var se_int) (sss_one (ss_ret (se_biT .list (cb_list) G.b_list bt_list (sa_cons se_var sa_nil)))) sss_nil)
    (sss_cons (ss_if (st_w (sw_or (st_cmp .eq hu se_var se_int) (sw_or1 (st_cmp .eq hu se_var (se_bi .len (cb_len) G.b_len bt_len (sa_cons se_var sa_nil)))))) (sss_one (ss_ret (se_add (se_add (se_slc se_var so_none (so_some se_var)) (se_tup (sa_cons (se_call F.f__law_odd hr pass0 (sa_cons se_var (sa_cons se_non sa_nil))) sa_nil))) (se_slc se_var (so_some se_var) so_none)))) sss_nil)
    (sss_cons (ss_if (st_cmp .eq hu se_var se_int) (sss_one (ss_ret (se_add (se_add (se_slc se_var so_none (so_some se_var)) (se_slc se_var (so_some se_var) (so_some (se_add se_var se_int)))) (se_slc se_var (so_some se_var) so_none)))) sss_nil)
    (sss_cons (ss_if (st_cmp .eq hu se_var se_int) (sss_one (ss_ret (se_add (se_slc se_var so_none (so_some se_var)) (se_slc se_var (so_some (se_add se_var se_int)) so_none)))) sss_nil)
    (sss_one (ss_ret (se_add (se_add (se_slc se_var so_none (so_some se_var)) (se_tup (sa_cons (se_call F.f__law_odd hr pass0 (sa_cons se_var (sa_cons (se_idx se_var se_var) sa_nil))) sa_nil))) (se_slc se_var (so_some (se_add se_var se_int)) so_none))))))))))
abbrev st_law : Stmt := top 33
theorem sc_law : FnScope ["_law_script", "_law_bag", "_law_rule_here", "_law_room", "_law_some", "_law_turn", "_law_rows", "_law_stand", "_law_one", "_law_k", "_law_part"] ["_law_script"] (defScope st_law) := ⟨rfl, rfl, rfl, by decide +kernel, rfl, by decide +kernel, by decide +kernel⟩
theorem ok_law (G : Glo K mg) (F : Fs P w K mg base k) (D : FunD K "law" "law" (defArgs st_law) (defBody st_law) (defScope st_law) [] [] fa fd) : FnOk P w K mg base CX0 (k + 1) fa fd ["_law_script"] (spF K (callN T (k + 1)) "law" 1) :=
  fn_ok (d := d_law) D sc_law t_law rfl rfl rfl fun cdv A outer s H E en hr =>
    have hN := sc_law.nd
    have hu := hu_of2 hr
    (sss_cons (ss_for PassesOwn.never rfl (si_plain (se_call F.f__law_bags hr pass0 (sa_cons se_var (sa_cons se_int sa_nil)))) (sg_name hN) (sss_cons (ss_setT (se_tup (sa_cons (se_call F.f__law_rule hr pass0 (sa_cons se_var (sa_cons se_int sa_nil))) (sa_cons (se_add se_int (se_call F.f__law_take hr pass0 (sa_cons se_var (sa_cons se_int sa_nil)))) sa_nil))) (sg_tup rfl (sgs_cons hN (sgs_cons hN sgs_nil))))
    (sss_cons (ss_own hN (fe_lst (sa_cons se_var (sa_cons (se_add se_var (se_mul (se_tup (sa_cons (se_tup (sa_cons (se_tup (sa_cons se_str sa_nil)) (sa_cons se_str sa_nil))) sa_nil)) (se_sub se_int (se_bi .len (cb_len) G.b_len bt_len (sa_cons se_var sa_nil))))) (sa_cons (se_add se_var (se_tup (sa_cons (se_tup (sa_cons (se_mul (se_tup (sa_cons se_str sa_nil)) se_int) (sa_cons se_str sa_nil))) sa_nil))) (sa_cons (se_glob G.c_USUAL) sa_nil))))))
    (sss_cons (ss_for PassesOwn.never rfl (si_range1 G.b_range se_int) (sg_name hN) (sss_one (ss_app (se_call F.f__law_odd hr pass0 (sa_cons se_var (sa_cons se_var sa_nil))))))
    (sss_cons (ss_frz (ss_if (st_cmp .ne hu (se_comp [("_law_one", 8)] rfl hN (si_plain se_var) (blkOk_by (by kernel_rfl)) (fun _ _ _ _ _ => (sg_name hN)) (fun _ _ _ _ _ => (sts_one (st_not (st_val (se_call F.f__law_same hr pass0 (sa_cons (se_call F.f_is_rule hr pass0 (sa_cons se_var sa_nil)) (sa_cons (se_call F.f__law_is_rule hr pass0 (sa_cons se_var sa_nil)) sa_nil))))))) (fun _ _ _ _ _ => se_int)) (se_lst sa_nil)) (sss_one (ss_ret se_bl)) sss_nil))
    (sss_cons (ss_set hN (se_biT .tuple (cb_tuple) G.b_tuple bt_tuple (sa_cons (se_comp [("_law_k", 9)] rfl hN (si_range1 G.b_range (se_call F.f__law_take hr pass0 (sa_cons se_var (sa_cons (se_add se_var se_int) sa_nil)))) (blkOk_by (by kernel_rfl)) (fun _ _ _ _ _ => (sg_name hN)) (fun _ _ _ _ _ => sts_nil) (fun _ _ _ _ _ => (se_biT .tuple (cb_tuple) G.b_tuple bt_tuple (sa_cons (se_comp [("_law_part", 10)] rfl hN (si_range1 G.b_range se_int) (blkOk_by (by kernel_rfl)) (fun _ _ _ _ _ => (sg_name hN)) (fun _ _ _ _ _ => sts_nil) (fun _ _ _ _ _ => (se_cmp .eq hu (se_call F.f__law_take hr pass0 (sa_cons se_var (sa_cons se_int sa_nil))) se_int))) sa_nil)))) sa_nil)))
    (sss_cons (ss_set hN (se_tup (sa_cons se_var (sa_cons (se_sub (se_call F.f__law_take hr pass0 (sa_cons se_var (sa_cons (se_add (se_bi .len (cb_len) G.b_len bt_len (sa_cons se_var sa_nil)) se_int) sa_nil))) se_int) sa_nil))))
    (sss_cons (ss_own hN (fe_lst (sa_cons se_var (sa_cons (se_tup (sa_cons (se_add se_var (se_tup (sa_cons (se_tup (sa_cons se_bl (sa_cons se_bl (sa_cons se_bl sa_nil)))) sa_nil))) (sa_cons (se_neg se_int) sa_nil))) (sa_cons (se_tup (sa_cons se_var (sa_cons (se_bi .len (cb_len) G.b_len bt_len (sa_cons se_var sa_nil)) sa_nil))) (sa_cons (se_tup (sa_cons se_var (sa_cons (se_neg se_int) sa_nil))) sa_nil))))))
    (sss_cons (ss_for PassesOwn.never rfl (si_range1 G.b_range se_int) (sg_name hN) (sss_one (ss_app (se_call F.f__law_odd hr pass0 (sa_cons se_var (sa_cons se_var sa_nil))))))
    (sss_one (ss_frz (ss_if (st_cmp .ne hu (se_comp [("_law_one", 8)] rfl hN (si_plain se_var) (blkOk_by (by kernel_rfl)) (fun _ _ _ _ _ => (sg_name hN)) (fun _ _ _ _ _ => (sts_one (st_not (st_val (se_call F.f__law_same hr pass0 (sa_cons (se_call F.f_is_stand hr pass0 (sa_cons se_var (sa_cons se_var sa_nil))) (sa_cons (se_call F.f__law_is_stand hr pass0 (sa_cons se_var (sa_cons se_var sa_nil))) sa_nil))))))) (fun _ _ _ _ _ => se_int)) (se_lst sa_nil)) (sss_one (ss_ret se_bl)) sss_nil))))))))))))
    (sss_one (ss_ret se_bl)))
end
abbrev RR : PySem.W.OpenLaw := PySem.Challenge.rw_staychosen_k01_rules_and_stands_recogniz
def dD (x : Str) (i : Nat) : He.DefD := ⟨(x, none), x, x, defArgs (top i), defBody (top i), defScope (top i), [], []⟩
def fn : List He.DefD := [dD "is_one_of" 8, dD "is_test" 9, dD "is_clause" 10, dD "is_rule" 11, dD "is_within" 13, dD "look_at_most" 14, dD "is_row" 15, dD "fits" 16, dD "is_stand" 17, dD "_law_well" 19, dD "_law_take" 20, dD "_law_bags" 21, dD "_law_same" 22, dD "_law_tests" 23, dD "_law_deeds" 24, dD "_law_test" 25, dD "_law_clause" 26, dD "_law_known" 27, dD "_law_rule" 28, dD "_law_is_clause" 29, dD "_law_is_rule" 30, dD "_law_is_stand" 31, dD "_law_odd" 32, dD "law" 33]
def fa : List He.Fa := [.glo "is_one_of", .glo "is_test", .glo "is_clause", .glo "is_rule", .glo "is_within", .glo "look_at_most", .glo "is_row", .glo "fits", .glo "is_stand", .glo "_law_well", .glo "_law_take", .glo "_law_bags", .glo "_law_same", .glo "_law_tests", .glo "_law_deeds", .glo "_law_test", .glo "_law_clause", .glo "_law_known", .glo "_law_rule", .glo "_law_is_clause", .glo "_law_is_rule", .glo "_law_is_stand", .glo "_law_odd", .glo "law", .free "all", .free "bool", .free "enumerate", .free "int", .free "isinstance", .free "len", .free "list", .free "range", .free "str", .free "tuple", .free "zip"]
def loose0 : List Str := ["ChoiceError", "InvalidMost", "TESTS", "DEEDS", "USUAL", "MOST_CLAUSES", "is_one_of", "is_test", "is_clause", "is_rule", "is_within", "look_at_most", "is_row", "fits", "is_stand", "_law_well", "_law_take", "_law_bags", "_law_same", "_law_tests", "_law_deeds", "_law_test", "_law_clause", "_law_known", "_law_rule", "_law_is_clause", "_law_is_rule", "_law_is_stand", "_law_odd"]
def loose : List Str := loose0
def ex (K : PySem.W.Frag) : Bool := cstB K "DEEDS" "DEEDS" && cstB K "MOST_CLAUSES" "MOST_CLAUSES" && cstB K "TESTS" "TESTS" && cstB K "USUAL" "USUAL"
abbrev R : PySem.W.OpenRow := PySem.W.OpenLaw.row RR
abbrev hk : PySem.W.Hook := He.hookX 4 fa fn [] [] ex
def ob (s : PySem.W.SharedT) : He.AlX := He.obsX 4 fa fn [] [] ex (HandSHeadRun.getT s)
theorem ob_eq (s : PySem.W.SharedT) : ob s = hk.obs s.abs := He.obsX_eq (HandSHeadRun.getT_eq s)
theorem run (w : World) : HandSHeadRun.RunEq R (PySem.W.view R.prog [33]) hk ob 20000 loose w := by
  intro os
  kernel_rfl
theorem glo {w : World} {K : PySem.W.Frag} {h : Heap} {mg : Str → Option Value} (X : K.In h) (G : h.Ns mainGlobals mg) (c : He.SaysX fa fn [] [] ex w h K) : Glo K mg := by
  have e := c.more
  unfold ex at e
  simp only [Bool.and_eq_true] at e
  obtain ⟨⟨⟨e0, e1⟩, e2⟩, e3⟩ := e
  exact ⟨He.free_ok X G (c.t.d.fact 24 (f := .free "all") rfl), He.free_ok X G (c.t.d.fact 25 (f := .free "bool") rfl), He.free_ok X G (c.t.d.fact 26 (f := .free "enumerate") rfl), He.free_ok X G (c.t.d.fact 27 (f := .free "int") rfl), He.free_ok X G (c.t.d.fact 28 (f := .free "isinstance") rfl), He.free_ok X G (c.t.d.fact 29 (f := .free "len") rfl), He.free_ok X G (c.t.d.fact 30 (f := .free "list") rfl), He.free_ok X G (c.t.d.fact 31 (f := .free "range") rfl), He.free_ok X G (c.t.d.fact 32 (f := .free "str") rfl), He.free_ok X G (c.t.d.fact 33 (f := .free "tuple") rfl), He.free_ok X G (c.t.d.fact 34 (f := .free "zip") rfl), cst_ok X G e0, cst_ok X G e1, cst_ok X G e2, cst_ok X G e3⟩
theorem all {P : Program} {w w2 : World} {K : PySem.W.Frag} {h base : Heap} {mg : Str → Option Value} (X : K.In h) (G : h.Ns mainGlobals mg) (c : He.SaysX fa fn [] [] ex w2 h K) (k : Nat) : Fs P w K mg base k := by
  have GG := glo X G c
  obtain ⟨fd0, D0⟩ : ∃ fd, FunD K "is_one_of" "is_one_of" (defArgs st_is_one_of) (defBody st_is_one_of) (defScope st_is_one_of) [] [] (He.ga K "is_one_of") fd := c.t.d.def_ 0 (d := dD "is_one_of" 8) rfl
  have m0 := He.glo_ok X G (c.t.d.fact 0 (f := .glo "is_one_of") rfl)
  obtain ⟨fd1, D1⟩ : ∃ fd, FunD K "is_test" "is_test" (defArgs st_is_test) (defBody st_is_test) (defScope st_is_test) [] [] (He.ga K "is_test") fd := c.t.d.def_ 1 (d := dD "is_test" 9) rfl
  have m1 := He.glo_ok X G (c.t.d.fact 1 (f := .glo "is_test") rfl)
  obtain ⟨fd2, D2⟩ : ∃ fd, FunD K "is_clause" "is_clause" (defArgs st_is_clause) (defBody st_is_clause) (defScope st_is_clause) [] [] (He.ga K "is_clause") fd := c.t.d.def_ 2 (d := dD "is_clause" 10) rfl
  have m2 := He.glo_ok X G (c.t.d.fact 2 (f := .glo "is_clause") rfl)
  obtain ⟨fd3, D3⟩ : ∃ fd, FunD K "is_rule" "is_rule" (defArgs st_is_rule) (defBody st_is_rule) (defScope st_is_rule) [] [] (He.ga K "is_rule") fd := c.t.d.def_ 3 (d := dD "is_rule" 11) rfl
  have m3 := He.glo_ok X G (c.t.d.fact 3 (f := .glo "is_rule") rfl)
  obtain ⟨fd4, D4⟩ : ∃ fd, FunD K "is_within" "is_within" (defArgs st_is_within) (defBody st_is_within) (defScope st_is_within) [] [] (He.ga K "is_within") fd := c.t.d.def_ 4 (d := dD "is_within" 13) rfl
  have m4 := He.glo_ok X G (c.t.d.fact 4 (f := .glo "is_within") rfl)
  obtain ⟨fd5, D5⟩ : ∃ fd, FunD K "look_at_most" "look_at_most" (defArgs st_look_at_most) (defBody st_look_at_most) (defScope st_look_at_most) [] [] (He.ga K "look_at_most") fd := c.t.d.def_ 5 (d := dD "look_at_most" 14) rfl
  have m5 := He.glo_ok X G (c.t.d.fact 5 (f := .glo "look_at_most") rfl)
  obtain ⟨fd6, D6⟩ : ∃ fd, FunD K "is_row" "is_row" (defArgs st_is_row) (defBody st_is_row) (defScope st_is_row) [] [] (He.ga K "is_row") fd := c.t.d.def_ 6 (d := dD "is_row" 15) rfl
  have m6 := He.glo_ok X G (c.t.d.fact 6 (f := .glo "is_row") rfl)
  obtain ⟨fd7, D7⟩ : ∃ fd, FunD K "fits" "fits" (defArgs st_fits) (defBody st_fits) (defScope st_fits) [] [] (He.ga K "fits") fd := c.t.d.def_ 7 (d := dD "fits" 16) rfl
  have m7 := He.glo_ok X G (c.t.d.fact 7 (f := .glo "fits") rfl)
  obtain ⟨fd8, D8⟩ : ∃ fd, FunD K "is_stand" "is_stand" (defArgs st_is_stand) (defBody st_is_stand) (defScope st_is_stand) [] [] (He.ga K "is_stand") fd := c.t.d.def_ 8 (d := dD "is_stand" 17) rfl
  have m8 := He.glo_ok X G (c.t.d.fact 8 (f := .glo "is_stand") rfl)
  obtain ⟨fd9, D9⟩ : ∃ fd, FunD K "_law_well" "_law_well" (defArgs st__law_well) (defBody st__law_well) (defScope st__law_well) [] [] (He.ga K "_law_well") fd := c.t.d.def_ 9 (d := dD "_law_well" 19) rfl
  have m9 := He.glo_ok X G (c.t.d.fact 9 (f := .glo "_law_well") rfl)
  obtain ⟨fd10, D10⟩ : ∃ fd, FunD K "_law_take" "_law_take" (defArgs st__law_take) (defBody st__law_take) (defScope st__law_take) [] [] (He.ga K "_law_take") fd := c.t.d.def_ 10 (d := dD "_law_take" 20) rfl
  have m10 := He.glo_ok X G (c.t.d.fact 10 (f := .glo "_law_take") rfl)
  obtain ⟨fd11, D11⟩ : ∃ fd, FunD K "_law_bags" "_law_bags" (defArgs st__law_bags) (defBody st__law_bags) (defScope st__law_bags) [] [] (He.ga K "_law_bags") fd := c.t.d.def_ 11 (d := dD "_law_bags" 21) rfl
  have m11 := He.glo_ok X G (c.t.d.fact 11 (f := .glo "_law_bags") rfl)
  obtain ⟨fd12, D12⟩ : ∃ fd, FunD K "_law_same" "_law_same" (defArgs st__law_same) (defBody st__law_same) (defScope st__law_same) [] [] (He.ga K "_law_same") fd := c.t.d.def_ 12 (d := dD "_law_same" 22) rfl
  have m12 := He.glo_ok X G (c.t.d.fact 12 (f := .glo "_law_same") rfl)
  obtain ⟨fd13, D13⟩ : ∃ fd, FunD K "_law_tests" "_law_tests" (defArgs st__law_tests) (defBody st__law_tests) (defScope st__law_tests) [] [] (He.ga K "_law_tests") fd := c.t.d.def_ 13 (d := dD "_law_tests" 23) rfl
  have m13 := He.glo_ok X G (c.t.d.fact 13 (f := .glo "_law_tests") rfl)
  obtain ⟨fd14, D14⟩ : ∃ fd, FunD K "_law_deeds" "_law_deeds" (defArgs st__law_deeds) (defBody st__law_deeds) (defScope st__law_deeds) [] [] (He.ga K "_law_deeds") fd := c.t.d.def_ 14 (d := dD "_law_deeds" 24) rfl
  have m14 := He.glo_ok X G (c.t.d.fact 14 (f := .glo "_law_deeds") rfl)
  obtain ⟨fd15, D15⟩ : ∃ fd, FunD K "_law_test" "_law_test" (defArgs st__law_test) (defBody st__law_test) (defScope st__law_test) [] [] (He.ga K "_law_test") fd := c.t.d.def_ 15 (d := dD "_law_test" 25) rfl
  have m15 := He.glo_ok X G (c.t.d.fact 15 (f := .glo "_law_test") rfl)
  obtain ⟨fd16, D16⟩ : ∃ fd, FunD K "_law_clause" "_law_clause" (defArgs st__law_clause) (defBody st__law_clause) (defScope st__law_clause) [] [] (He.ga K "_law_clause") fd := c.t.d.def_ 16 (d := dD "_law_clause" 26) rfl
  have m16 := He.glo_ok X G (c.t.d.fact 16 (f := .glo "_law_clause") rfl)
  obtain ⟨fd17, D17⟩ : ∃ fd, FunD K "_law_known" "_law_known" (defArgs st__law_known) (defBody st__law_known) (defScope st__law_known) [] [] (He.ga K "_law_known") fd := c.t.d.def_ 17 (d := dD "_law_known" 27) rfl
  have m17 := He.glo_ok X G (c.t.d.fact 17 (f := .glo "_law_known") rfl)
  obtain ⟨fd18, D18⟩ : ∃ fd, FunD K "_law_rule" "_law_rule" (defArgs st__law_rule) (defBody st__law_rule) (defScope st__law_rule) [] [] (He.ga K "_law_rule") fd := c.t.d.def_ 18 (d := dD "_law_rule" 28) rfl
  have m18 := He.glo_ok X G (c.t.d.fact 18 (f := .glo "_law_rule") rfl)
  obtain ⟨fd19, D19⟩ : ∃ fd, FunD K "_law_is_clause" "_law_is_clause" (defArgs st__law_is_clause) (defBody st__law_is_clause) (defScope st__law_is_clause) [] [] (He.ga K "_law_is_clause") fd := c.t.d.def_ 19 (d := dD "_law_is_clause" 29) rfl
  have m19 := He.glo_ok X G (c.t.d.fact 19 (f := .glo "_law_is_clause") rfl)
  obtain ⟨fd20, D20⟩ : ∃ fd, FunD K "_law_is_rule" "_law_is_rule" (defArgs st__law_is_rule) (defBody st__law_is_rule) (defScope st__law_is_rule) [] [] (He.ga K "_law_is_rule") fd := c.t.d.def_ 20 (d := dD "_law_is_rule" 30) rfl
  have m20 := He.glo_ok X G (c.t.d.fact 20 (f := .glo "_law_is_rule") rfl)
  obtain ⟨fd21, D21⟩ : ∃ fd, FunD K "_law_is_stand" "_law_is_stand" (defArgs st__law_is_stand) (defBody st__law_is_stand) (defScope st__law_is_stand) [] [] (He.ga K "_law_is_stand") fd := c.t.d.def_ 21 (d := dD "_law_is_stand" 31) rfl
  have m21 := He.glo_ok X G (c.t.d.fact 21 (f := .glo "_law_is_stand") rfl)
  obtain ⟨fd22, D22⟩ : ∃ fd, FunD K "_law_odd" "_law_odd" (defArgs st__law_odd) (defBody st__law_odd) (defScope st__law_odd) [] [] (He.ga K "_law_odd") fd := c.t.d.def_ 22 (d := dD "_law_odd" 32) rfl
  have m22 := He.glo_ok X G (c.t.d.fact 22 (f := .glo "_law_odd") rfl)
  obtain ⟨fd23, D23⟩ : ∃ fd, FunD K "law" "law" (defArgs st_law) (defBody st_law) (defScope st_law) [] [] (He.ga K "law") fd := c.t.d.def_ 23 (d := dD "law" 33) rfl
  have m23 := He.glo_ok X G (c.t.d.fact 23 (f := .glo "law") rfl)
  induction k with
  | zero => exact ⟨fnc D0 m0 (fn_zero (ps := ["value", "some"]) rfl) rfl (fun _ _ _ _ _ _ us hl => match us, hl with | [_, _], _ => rfl),
      fnc D1 m1 (fn_zero (ps := ["value"]) rfl) rfl (fun _ _ _ _ _ _ us hl => match us, hl with | [_], _ => rfl),
      fnc D2 m2 (fn_zero (ps := ["value"]) rfl) rfl (fun _ _ _ _ _ _ us hl => match us, hl with | [_], _ => rfl),
      fnc D3 m3 (fn_zero (ps := ["value"]) rfl) rfl (fun _ _ _ _ _ _ us hl => match us, hl with | [_], _ => rfl),
      fnc D4 m4 (fn_zero (ps := ["value", "low", "high"]) rfl) rfl (fun _ _ _ _ _ _ us hl => match us, hl with | [_, _, _], _ => rfl),
      fnc D5 m5 (fn_zero (ps := ["most"]) rfl) rfl (fun _ _ _ _ _ _ us hl => match us, hl with | [_], _ => rfl),
      fnc D6 m6 (fn_zero (ps := ["value"]) rfl) rfl (fun _ _ _ _ _ _ us hl => match us, hl with | [_], _ => rfl),
      fnc D7 m7 (fn_zero (ps := ["most", "value"]) rfl) rfl (fun _ _ _ _ _ _ us hl => match us, hl with | [_, _], _ => rfl),
      fnc D8 m8 (fn_zero (ps := ["most", "value"]) rfl) rfl (fun _ _ _ _ _ _ us hl => match us, hl with | [_, _], _ => rfl),
      fnc D9 m9 (fn_zero (ps := ["_law_cell", "_law_turn"]) rfl) rfl (fun _ _ _ _ _ _ us hl => match us, hl with | [_, _], _ => rfl),
      fnc D10 m10 (fn_zero (ps := ["_law_bag", "_law_many"]) rfl) rfl (fun _ _ _ _ _ _ us hl => match us, hl with | [_, _], _ => rfl),
      fnc D11 m11 (fn_zero (ps := ["_law_script", "_law_most"]) rfl) rfl (fun _ _ _ _ _ _ us hl => match us, hl with | [_, _], _ => rfl),
      fnc D12 m12 (fn_zero (ps := ["_law_a", "_law_b"]) rfl) rfl (fun _ _ _ _ _ _ us hl => match us, hl with | [_, _], _ => rfl),
      fnc D13 m13 (fn_zero (ps := []) rfl) rfl (fun _ _ _ _ _ _ us hl => match us, hl with | [], _ => rfl),
      fnc D14 m14 (fn_zero (ps := []) rfl) rfl (fun _ _ _ _ _ _ us hl => match us, hl with | [], _ => rfl),
      fnc D15 m15 (fn_zero (ps := ["_law_bag"]) rfl) rfl (fun _ _ _ _ _ _ us hl => match us, hl with | [_], _ => rfl),
      fnc D16 m16 (fn_zero (ps := ["_law_bag"]) rfl) rfl (fun _ _ _ _ _ _ us hl => match us, hl with | [_], _ => rfl),
      fnc D17 m17 (fn_zero (ps := ["_law_bag"]) rfl) rfl (fun _ _ _ _ _ _ us hl => match us, hl with | [_], _ => rfl),
      fnc D18 m18 (fn_zero (ps := ["_law_bag", "_law_most"]) rfl) rfl (fun _ _ _ _ _ _ us hl => match us, hl with | [_, _], _ => rfl),
      fnc D19 m19 (fn_zero (ps := ["_law_value"]) rfl) rfl (fun _ _ _ _ _ _ us hl => match us, hl with | [_], _ => rfl),
      fnc D20 m20 (fn_zero (ps := ["_law_value"]) rfl) rfl (fun _ _ _ _ _ _ us hl => match us, hl with | [_], _ => rfl),
      fnc D21 m21 (fn_zero (ps := ["_law_room", "_law_value"]) rfl) rfl (fun _ _ _ _ _ _ us hl => match us, hl with | [_, _], _ => rfl),
      fnc D22 m22 (fn_zero (ps := ["_law_bag", "_law_value"]) rfl) rfl (fun _ _ _ _ _ _ us hl => match us, hl with | [_, _], _ => rfl),
      fnc D23 m23 (fn_zero (ps := ["_law_script"]) rfl) rfl (fun _ _ _ _ _ _ us hl => match us, hl with | [_], _ => rfl)⟩
  | succ k ih => exact ⟨fnc D0 m0 (ok_is_one_of GG ih D0) rfl (fun _ _ _ _ _ _ us hl => match us, hl with | [_, _], _ => rfl),
      fnc D1 m1 (ok_is_test GG ih D1) rfl (fun _ _ _ _ _ _ us hl => match us, hl with | [_], _ => rfl),
      fnc D2 m2 (ok_is_clause GG ih D2) rfl (fun _ _ _ _ _ _ us hl => match us, hl with | [_], _ => rfl),
      fnc D3 m3 (ok_is_rule GG ih D3) rfl (fun _ _ _ _ _ _ us hl => match us, hl with | [_], _ => rfl),
      fnc D4 m4 (ok_is_within GG ih D4) rfl (fun _ _ _ _ _ _ us hl => match us, hl with | [_, _, _], _ => rfl),
      fnc D5 m5 (ok_look_at_most GG ih D5) rfl (fun _ _ _ _ _ _ us hl => match us, hl with | [_], _ => rfl),
      fnc D6 m6 (ok_is_row GG ih D6) rfl (fun _ _ _ _ _ _ us hl => match us, hl with | [_], _ => rfl),
      fnc D7 m7 (ok_fits GG ih D7) rfl (fun _ _ _ _ _ _ us hl => match us, hl with | [_, _], _ => rfl),
      fnc D8 m8 (ok_is_stand GG ih D8) rfl (fun _ _ _ _ _ _ us hl => match us, hl with | [_, _], _ => rfl),
      fnc D9 m9 (ok__law_well GG ih D9) rfl (fun _ _ _ _ _ _ us hl => match us, hl with | [_, _], _ => rfl),
      fnc D10 m10 (ok__law_take GG ih D10) rfl (fun _ _ _ _ _ _ us hl => match us, hl with | [_, _], _ => rfl),
      fnc D11 m11 (ok__law_bags GG ih D11) rfl (fun _ _ _ _ _ _ us hl => match us, hl with | [_, _], _ => rfl),
      fnc D12 m12 (ok__law_same GG ih D12) rfl (fun _ _ _ _ _ _ us hl => match us, hl with | [_, _], _ => rfl),
      fnc D13 m13 (ok__law_tests GG ih D13) rfl (fun _ _ _ _ _ _ us hl => match us, hl with | [], _ => rfl),
      fnc D14 m14 (ok__law_deeds GG ih D14) rfl (fun _ _ _ _ _ _ us hl => match us, hl with | [], _ => rfl),
      fnc D15 m15 (ok__law_test GG ih D15) rfl (fun _ _ _ _ _ _ us hl => match us, hl with | [_], _ => rfl),
      fnc D16 m16 (ok__law_clause GG ih D16) rfl (fun _ _ _ _ _ _ us hl => match us, hl with | [_], _ => rfl),
      fnc D17 m17 (ok__law_known GG ih D17) rfl (fun _ _ _ _ _ _ us hl => match us, hl with | [_], _ => rfl),
      fnc D18 m18 (ok__law_rule GG ih D18) rfl (fun _ _ _ _ _ _ us hl => match us, hl with | [_, _], _ => rfl),
      fnc D19 m19 (ok__law_is_clause GG ih D19) rfl (fun _ _ _ _ _ _ us hl => match us, hl with | [_], _ => rfl),
      fnc D20 m20 (ok__law_is_rule GG ih D20) rfl (fun _ _ _ _ _ _ us hl => match us, hl with | [_], _ => rfl),
      fnc D21 m21 (ok__law_is_stand GG ih D21) rfl (fun _ _ _ _ _ _ us hl => match us, hl with | [_, _], _ => rfl),
      fnc D22 m22 (ok__law_odd GG ih D22) rfl (fun _ _ _ _ _ _ us hl => match us, hl with | [_, _], _ => rfl),
      fnc D23 m23 (ok_law GG ih D23) rfl (fun _ _ _ _ _ _ us hl => match us, hl with | [_], _ => rfl)⟩
open PySem PySem.W PySem.Calls PyProof.Rows
theorem holds (plain : ∀ ns : List Int, ns.length ≤ 63 → ∃ μ', callN T 40 "law" [.scr (ns.map D.int)] [] = .ok (.bl true, μ')) : PySem.Challenge.rw_staychosen_k01_rules_and_stands_recogniz.Holds := by
  w_on; o_law
  refine HandSHeadRun.head_any (r := OpenLaw.row PySem.Challenge.rw_staychosen_k01_rules_and_stands_recogniz) (q := view (OpenLaw.row PySem.Challenge.rw_staychosen_k01_rules_and_stands_recogniz).prog [33]) (H := hk) (ob := ob) (M := 20000) (loose := loose) (d := HandSHeadRun.topDef (OpenLaw.row PySem.Challenge.rw_staychosen_k01_rules_and_stands_recogniz).prog 33) (kwd := []) ob_eq
    (by kernel_rfl) (fun s => by kernel_rfl) run (by kernel_rfl) (by kernel_rfl) (by kernel_rfl) (by rfl) (by first | assumption | decide +kernel) (by decide +kernel) ⟨rfl, rfl, rfl, rfl, rfl, by decide +kernel⟩ ?hw ?hc
  case hw => w_witness2
  case hc =>
    refine L2.walk_ofE (l := PySem.Challenge.rw_staychosen_k01_rules_and_stands_recogniz) (n := 63) (k := 40) (x := "_law_script") (CX := L2.CX0) rfl (by decide) (by kernel_rfl) ⟨rfl, by decide, by decide⟩ ?F (fun _ _ _ _ z => z)
    intro w mg fad h Y G hmg0
    obtain ⟨K, KX, c⟩ := Y
    have hmg : mg ("law" : PySem.Str) = some (.ref fad) := by
      have e : (HandSHeadRun.topDef (OpenLaw.row PySem.Challenge.rw_staychosen_k01_rules_and_stands_recogniz).prog 33).name = ("law" : PySem.Str) := by kernel_rfl
      rw [← e]
      exact hmg0
    obtain ⟨fd, D⟩ : ∃ fd, L2.FunD K "law" "law" (L2.defArgs st_law) (L2.defBody st_law) (L2.defScope st_law) [] [] (He.ga K "law") fd := c.t.d.def_ 23 (d := dD "law" 33) rfl
    have e := hmg.symm.trans (He.glo_ok KX G (c.t.d.fact 23 (f := .glo "law") rfl))
    cases e
    have b := L2.FunD.bindsA (ps := ["_law_script"]) D fun _ _ _ _ _ _ us hl => match us, hl with | [_], _ => rfl
    refine ⟨K, fd, spF K (callN T 40) "law" 1, KX, fun s v => b s [v] rfl, fun H a ns hl _ hS => ?_, fun base KB GB => ok_law (glo KX G c) (all KX G c 39) D⟩
    obtain ⟨μ', e⟩ := plain ns hl
    exact script_sp hS e
end SC.k01

theorem PySem.Challenge.cw_staychosen_k01_rules_and_stands_recogniz_holds : PySem.Challenge.rw_staychosen_k01_rules_and_stands_recogniz.Holds := by
  exact SC.k01.holds SC.P.law_k01
